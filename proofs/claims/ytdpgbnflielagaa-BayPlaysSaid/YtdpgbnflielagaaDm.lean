/-
  The document's lines in memory, off the blocks of bays.
-/
import Derived.Test.YtdpgbnflielagaaD
import Derived.Laws.MakeOwn
namespace Go.XG
def IX (B : Nat) (H : Heap) (G : Nat → Prop) (a : Option Addr) (l : List Int) : Prop := l = [] ∨ ∃ g o, a = some ⟨g, o, none⟩ ∧ ¬ G g ∧ (g < B ∨ ∃ cs, Blk H g cs 3) ∧ Row H g o (ints l)
def LE (B : Nat) (H : Heap) (G : Nat → Prop) (a : Option Addr) (E : List Se) : Prop :=
  (∀ e ∈ E, IX B H G e.ra e.rn ∧ IX B H G e.wa e.wt) ∧ (E = [] ∨ ∃ b o, a = some ⟨b, o, none⟩ ∧ ¬ G b ∧ (b < B ∨ ∃ cs, Blk H b cs 40) ∧ Row H b o (fL E))
def LX (B : Nat) (H : Heap) (G : Nat → Prop) (a : Option Addr) (c : Nat) (L : List Ln) : Prop := ∃ E, E.map lnP = L ∧ LE B H G a E ∧ E.length ≤ c
section
variable {B : Nat} {H H1 : Heap} {G F : Nat → Prop} {a ra wa : Option Addr} {l r w : List Int} {E : List Se} {L : List Ln} {base n c b o k i rc wc : Nat} {v : Value} {xs cs : List Value} {S : List Sd} {e : Se} {t : TypeId}
theorem row_lt (h : Row H b o xs) (h0 : xs ≠ []) : b < H.size := by
  cases xs with
  | nil => exact absurd rfl h0
  | cons v xs => exact cellAt_lt (h 0 v rfl)
theorem row_keep (h : Row H b o xs) (kf : KeepF F H H1) (hn : ¬ F b) : Row H1 b o xs := fun j v hj => by
  have h1 := h j v hj
  have h2 := cellAt_lt h1
  unfold cellAt at h1 ⊢
  rw [kf.same b h2 hn]; exact h1
theorem ints_ne {l : List Int} (h : l ≠ []) : XG.ints l ≠ [] := by cases l with
  | nil => exact absurd rfl h
  | cons x l => exact fun h => by cases h
theorem fL_ne (h : E ≠ []) : fL E ≠ [] := fun h1 => h (by
  have := congrArg List.length h1
  rw [fL_len] at this
  exact List.length_eq_zero_iff.1 (by have h2 : E.length * 2 = 0 := this; omega))
theorem IX.ints (h : IX B H G a l) : Ints H a l := h.imp id fun ⟨g, o, h1, _, _, h3⟩ => ⟨g, o, h1, h3⟩
theorem IX.ext (h : IX B H G a l) (x : Ext H H1) : IX B H1 G a l := h.imp id fun ⟨g, o, h1, h2, h4, h3⟩ => ⟨g, o, h1, h2, h4.imp id (fun ⟨cs, h5⟩ => ⟨cs, h5.ext x⟩), h3.ext x⟩
theorem IX.keep (h : IX B H G a l) (kf : KeepF G H H1) : IX B H1 (Gn G H H1) a l := by
  by_cases h0 : l = []
  · exact .inl h0
  · obtain ⟨g, o, h1, h2, h4, h3⟩ := h.resolve_left h0
    exact .inr ⟨g, o, h1, fun h5 => h5.elim h2 (fun h6 => by have := row_lt h3 (ints_ne h0); omega), h4.imp id (fun ⟨cs, h5⟩ => ⟨cs, h5.keep kf h2⟩), row_keep h3 kf h2⟩
theorem IX.new {G' : Nat → Prop} (h : IX B H G a l) (hG : ∀ j, G' j → H.size ≤ j) : IX B H G' a l := by
  by_cases h0 : l = []
  · exact .inl h0
  · obtain ⟨g, o, h1, _, h4, h3⟩ := h.resolve_left h0
    exact .inr ⟨g, o, h1, fun h5 => by have := row_lt h3 (ints_ne h0); have := hG g h5; omega, h4, h3⟩
theorem tb_ne {g t2 : Nat} (h : g < B ∨ ∃ cs, Blk H g cs t2) (hb : Blk H b cs t) (hB : B ≤ b) (hne : Nat.beq t t2 = false) : g ≠ b := by
  rcases h with h | ⟨cs2, h⟩
  · omega
  · exact fun e => by subst e; exact hb.ne h hne rfl
theorem IX.offT (h : IX B H G a l) (hb : Blk H b cs t) (u : But b H H1) (hB : B ≤ b) (hne : Nat.beq t 3 = false := by rfl) : IX B H1 G a l := h.imp id fun ⟨g, o, h1, h2, h4, h3⟩ => by
  have hg := tb_ne h4 hb hB hne
  exact ⟨g, o, h1, h2, h4.imp id (fun ⟨cs2, h5⟩ => ⟨cs2, h5.but u hg⟩), h3.but u hg⟩
theorem LE.ext (h : LE B H G a E) (x : Ext H H1) : LE B H1 G a E := ⟨fun e he => ⟨(h.1 e he).1.ext x, (h.1 e he).2.ext x⟩, h.2.imp id fun ⟨b, o, h1, h2, h4, h3⟩ => ⟨b, o, h1, h2, h4.imp id (fun ⟨cs, h5⟩ => ⟨cs, h5.ext x⟩), h3.ext x⟩⟩
theorem LE.keep (h : LE B H G a E) (kf : KeepF G H H1) : LE B H1 (Gn G H H1) a E := by
  refine ⟨fun e he => ⟨(h.1 e he).1.keep kf, (h.1 e he).2.keep kf⟩, ?_⟩
  by_cases h0 : E = []
  · exact .inl h0
  · obtain ⟨g, o, h1, h2, h4, h3⟩ := h.2.resolve_left h0
    exact .inr ⟨g, o, h1, fun h5 => h5.elim h2 (fun h6 => by have := row_lt h3 (fL_ne h0); omega), h4.imp id (fun ⟨cs, h5⟩ => ⟨cs, h5.keep kf h2⟩), row_keep h3 kf h2⟩
theorem LE.new {G' : Nat → Prop} (h : LE B H G a E) (hG : ∀ j, G' j → H.size ≤ j) : LE B H G' a E := by
  refine ⟨fun e he => ⟨(h.1 e he).1.new hG, (h.1 e he).2.new hG⟩, ?_⟩
  by_cases h0 : E = []
  · exact .inl h0
  · obtain ⟨g, o, h1, _, h4, h3⟩ := h.2.resolve_left h0
    exact .inr ⟨g, o, h1, fun h5 => by have := row_lt h3 (fL_ne h0); have := hG g h5; omega, h4, h3⟩
theorem LE.offT (h : LE B H G a E) (hb : Blk H b cs t) (u : But b H H1) (hB : B ≤ b) (hne : (Nat.beq t 3 || Nat.beq t 40) = false := by rfl) : LE B H1 G a E := by
  rw [Bool.or_eq_false_iff] at hne
  refine ⟨fun e he => ⟨(h.1 e he).1.offT hb u hB hne.1, (h.1 e he).2.offT hb u hB hne.1⟩, h.2.imp id fun ⟨g, o, h1, h2, h4, h3⟩ => ?_⟩
  have hg := tb_ne h4 hb hB hne.2
  exact ⟨g, o, h1, h2, h4.imp id (fun ⟨cs2, h5⟩ => ⟨cs2, h5.but u hg⟩), h3.but u hg⟩
theorem LX.ext (h : LX B H G a c L) (x : Ext H H1) : LX B H1 G a c L := by obtain ⟨E, h1, h2, h3⟩ := h; exact ⟨E, h1, h2.ext x, h3⟩
theorem LX.keep (h : LX B H G a c L) (kf : KeepF G H H1) : LX B H1 (Gn G H H1) a c L := by obtain ⟨E, h1, h2, h3⟩ := h; exact ⟨E, h1, h2.keep kf, h3⟩
theorem LX.new {G' : Nat → Prop} (h : LX B H G a c L) (hG : ∀ j, G' j → H.size ≤ j) : LX B H G' a c L := by obtain ⟨E, h1, h2, h3⟩ := h; exact ⟨E, h1, h2.new hG, h3⟩
theorem LX.offT (h : LX B H G a c L) (hb : Blk H b cs t) (u : But b H H1) (hB : B ≤ b) (hne : (Nat.beq t 3 || Nat.beq t 40) = false := by rfl) : LX B H1 G a c L := by obtain ⟨E, h1, h2, h3⟩ := h; exact ⟨E, h1, h2.offT hb u hB hne, h3⟩
theorem LX.ld (h : LX B H G a c L) : LD H a L := by
  obtain ⟨E, h1, h2, _⟩ := h
  exact ⟨E, h1, fun e he => ⟨(h2.1 e he).1.ints, (h2.1 e he).2.ints⟩, h2.2.imp id fun ⟨b, o, g1, _, _, g3⟩ => ⟨b, o, g1, g3⟩⟩
theorem LX.nil : LX B H G none 0 [] := ⟨[], rfl, ⟨fun e he => (by cases he), .inl rfl⟩, Nat.le_refl _⟩
theorem LE.at' (h : LE B H G a E) : ∃ b o, 0 < E.length → a = some ⟨b, o, none⟩ ∧ Row H b o (fL E) := by
  rcases h.2 with h | ⟨b, o, h1, _, _, h2⟩
  · exact ⟨0, 0, fun h0 => by rw [h] at h0; exact absurd h0 (by decide)⟩
  · exact ⟨b, o, fun _ => ⟨h1, h2⟩⟩
theorem LE.get (h : LE B H G a E) (hk : k < E.length) : IX B H G (gE E k).ra (gE E k).rn ∧ IX B H G (gE E k).wa (gE E k).wt := h.1 _ (gE_in hk)
theorem own_IX (h : Own H base 3 1 (.slice a n c) n (ints l)) (hG : ∀ j, G j → j < base) : IX B H G a l := by
  rcases own_blk2 h with ⟨h1, h2, _⟩ | ⟨g, ex, h1, h2, h3, _⟩
  · have := h.len
    rw [h2] at this
    exact .inl (List.length_eq_zero_iff.1 (by simpa [XG.ints] using this))
  · exact .inr ⟨g, 0, h1, fun h4 => by have := hG g h4; omega, .inr ⟨_, h2⟩, h2.row.pre⟩
theorem own_LE (h : Own H base 40 2 (.slice a n c) n (fL E)) (hG : ∀ j, G j → j < base) (hE : ∀ e ∈ E, IX B H G e.ra e.rn ∧ IX B H G e.wa e.wt) : LE B H G a E ∧ E.length = n ∧ n ≤ c := by
  have hl := h.len
  rw [fL_len] at hl
  refine ⟨⟨hE, ?_⟩, by omega, ?_⟩
  · rcases own_blk2 h with ⟨h1, h2, _⟩ | ⟨g, ex, h1, h2, h3, _⟩
    · exact .inl (List.length_eq_zero_iff.1 (by omega))
    · exact .inr ⟨g, 0, h1, fun h4 => by have := hG g h4; omega, .inr ⟨_, h2⟩, h2.row.pre⟩
  · rcases own_blk2 h with ⟨h1, h2, _⟩ | ⟨g, ex, h1, h2, h3, h4, _⟩
    · omega
    · exact h4
theorem ln_gs (h : E.map lnP = S.map lnS) (hk : k < E.length) : (gE E k).rn = (gS S k).rn ∧ (gE E k).wt = (gS S k).wt := by
  have hl : E.length = S.length := by have := congrArg List.length h; rwa [List.length_map, List.length_map] at this
  have h1 := congrArg (fun l => l[k]?) h
  simp only [List.getElem?_map] at h1
  rw [gE_eq hk, show gS S k = S[k] by simp [gS, show k < S.length by omega]]
  rw [List.getElem?_eq_getElem hk, List.getElem?_eq_getElem (by omega)] at h1
  simp only [Option.map_some, Option.some.injEq] at h1
  exact ⟨congrArg Prod.fst h1, congrArg Prod.snd h1⟩
theorem fL_app {E' : List Se} : fL (E ++ E') = fL E ++ fL E' := by unfold fL; rw [List.flatMap_append]
theorem row_takeL (h : Row H b o (fL E)) (k : Nat) : Row H b o (fL (E.take k)) := by
  have e : fL E = fL (E.take k) ++ fL (E.drop k) := by rw [← fL_app, List.take_append_drop]
  rw [e] at h; exact h.pre
theorem row_dropL (h : Row H b o (fL E)) (hk : k ≤ E.length) : Row H b (o + k * 2) (fL (E.drop k)) := fun j v hj => by
  have e : fL E = fL (E.take k) ++ fL (E.drop k) := by rw [← fL_app, List.take_append_drop]
  have hl : (fL (E.take k)).length = k * 2 := by rw [fL_len, List.length_take, Nat.min_eq_left hk]
  have := h (k * 2 + j) v (by rw [e, List.getElem?_append_right (by omega), hl]; rw [show k * 2 + j - k * 2 = j by omega]; exact hj)
  rw [Nat.add_assoc]; exact this
theorem fL_one (E : List Se) : ∀ u ∈ fL E, u.oneCell' = true := fun u hu => by
  obtain ⟨e, _, h⟩ := List.mem_flatMap.1 hu
  simp only [csL, List.mem_cons, List.not_mem_nil, or_false] at h
  rcases h with rfl | rfl <;> rfl
theorem fL_set (hk : k < E.length) : fL (E.take k) ++ csL e ++ fL (E.drop (k + 1)) = fL (E.set k e) := by
  rw [List.set_eq_take_append_cons_drop, if_pos hk, fL_app]
  show _ = fL (E.take k) ++ (csL e ++ fL (E.drop (k + 1)))
  rw [List.append_assoc]
theorem cut_o {b o n m size : Nat} (h : n < m) : cutA (some ⟨b, o, none⟩) n m size = some ⟨b, o + n * size, none⟩ := by
  unfold cutA; rw [if_neg (by omega)]; simp [addr_add]
theorem cut_o0 {b o m size : Nat} : cutA (some ⟨b, o, none⟩) 0 m size = some ⟨b, o, none⟩ := by
  unfold cutA; split
  · rfl
  · simp [addr_add]
theorem set_all {p : Se → Prop} (h : ∀ x ∈ E, p x) (he : p e) : ∀ x ∈ E.set k e, p x := fun x hx => by
  rcases List.mem_or_eq_of_mem_set hx with hx | rfl
  · exact h x hx
  · exact he
theorem map_setL : (E.set k e).map lnP = (E.map lnP).set k (lnP e) := List.map_set
theorem lnS_set {d : Sd} : (S.set k d).map lnS = (S.map lnS).set k (lnS d) := List.map_set
/-- Slots. -/
theorem sls_get {l : List (List Int)} {q : Nat} (hq : q < l.length) : (sls l).getD (2 * q) 0 = x1B (gr l q) ∧ (sls l).getD (2 * q + 1) 0 = x2B (gr l q) := by
  induction l generalizing q with
  | nil => exact absurd hq (by simp)
  | cons r l ih =>
    have e : sls (r :: l) = x1B r :: x2B r :: sls l := rfl
    rw [e]
    cases q with
    | zero => exact ⟨rfl, rfl⟩
    | succ q =>
      obtain ⟨h1, h2⟩ := ih (q := q) (by simpa using hq)
      exact ⟨h1, h2⟩
theorem sls_gs {l : List (List Int)} (h : sls l = S.map Sd.sl) {k : Nat} : (sls l).getD k 0 = (gS S k).sl := by
  rw [h]
  by_cases hk : k < S.length
  · simp [gS, hk]
  · simp [gS, hk, s0]
theorem sls_S {l : List (List Int)} (h : sls l = S.map Sd.sl) : S.length = 2 * l.length := by
  have := congrArg List.length h
  rw [sls_len, List.length_map] at this; exact this.symm
end
section
variable {C : Cx} {o : Oper} {ρ : Env} {H : Heap}
theorem hv_makeSlice {x y : Operand} {t e : TypeId} {agg : Bool} {size bytes : Nat} {zero : Value} {n : Nat} [ht : Und C.P t (.slice e)] [hi : Inf C.P e agg size bytes zero] (ho : o.op = .makeSlice t x y) (hx : ev ρ x = .int .i64 (n : Nat)) (hy : ev ρ y = .int .i64 (n : Nat))
    (hby : bytes * n ≤ 281474976710656) (h63 : n ≤ 9223372036854775807) : HV C o ρ H (fun v H' => ∃ b, v = .slice (some ⟨b, 0, none⟩) n n ∧ New H H' b (madeCells zero.cells (n * size)).toList e) := fun w hs => .inl (by
  obtain ⟨i, i1, i2, i3, i4⟩ := hi.i
  have hr := run_make (P := C.P) w t e i zero ht.h i1 i4 .i64 .i64 (n : Nat) (n : Nat) (by omega) (by omega) (by rw [i3]; rw [← Int.natCast_mul]; omega) (by omega)
  refine ⟨_, w.alloc (.cells (madeCells zero.cells (n * size)) e), ?_, H.push (.cells (madeCells zero.cells (n * size)).toList.toArray e), ?_, H.size, rfl, new_push H _ e⟩
  · simp only [execOp, ho, hx, hy, Sem.run_bind, Sem.run_pure, Result.andThen_ok, hr, i2, Int.toNat_natCast, hs.1]
  · have h1 := sees_push hs (.cells (madeCells zero.cells (n * size)).toList.toArray e)
    rw [Array.toArray_toList] at h1 ⊢
    exact h1)
theorem made_L (n : Nat) : (madeCells (Value.agg #[.slice none 0 0, .slice none 0 0]).cells (n * 2)).toList = fL (List.replicate n e0) := by
  have h1 : fL (List.replicate n e0) = List.replicate (n * 2) (Value.slice none 0 0) := by
    induction n with
    | zero => rfl
    | succ n ih =>
      rw [List.replicate_succ, show (n + 1) * 2 = (n * 2 + 1) + 1 by omega, List.replicate_succ, List.replicate_succ]
      show csL e0 ++ fL (List.replicate n e0) = _
      rw [ih]; rfl
  rw [h1]
  apply List.ext_getElem (by simp [madeCells])
  intro i h2 h3
  simp only [madeCells, Array.toList_map, Array.toList_range, List.getElem_map, List.getElem_range, List.getElem_replicate]
  have h4 : i % 2 = 0 ∨ i % 2 = 1 := by omega
  show (#[Value.slice none 0 0, .slice none 0 0] : Array Value)[i % 2]! = _
  rcases h4 with h4 | h4 <;> rw [h4] <;> rfl
theorem LE.zero {B : Nat} {H : Heap} {G : Nat → Prop} {b n : Nat} (h : Blk H b (fL (List.replicate n e0)) 40) (hG : ¬ G b) : LE B H G (some ⟨b, 0, none⟩) (List.replicate n e0) :=
  ⟨fun e he => by rw [(List.mem_replicate.1 he).2]; exact ⟨.inl rfl, .inl rfl⟩, .inr ⟨b, 0, rfl, hG, .inr ⟨_, h⟩, h.row⟩⟩
end
section
variable {S : List Sd} {f : Fn} {j : Int} {M : List Int} {x y : Int} {p q : Prop}
theorem find_none (h : IV S f) (hn : ∀ n, n < S.length → ¬ (j ∈ (gS S n).rn ∨ j ∈ (gS S n).wt)) : f j = none := by
  cases hf : f j with
  | none => rfl
  | some r => obtain ⟨n, _, h1, h2⟩ := (h.fm j r).1 hf; exact absurd h2 (hn n h1)
theorem may_step (h : ∀ n ∈ M, okS n) (hx : okS x) (hy : okS y) : ∀ n ∈ M ++ [x, y], okS n := fun n hn => by
  rcases List.mem_append.1 hn with hn | hn
  · exact h n hn
  · simp only [List.mem_cons, List.not_mem_nil, or_false] at hn
    rcases hn with rfl | rfl
    · exact hx
    · exact hy
theorem dv [Decidable p] (h : p) : Value.bool (decide p) = .bool true := by rw [decide_eq_true h]
end
/-! A number put into numbers that rise. -/
def PO (l : List Int) (x : Int) (k : Nat) (d : Bool) (out : List Int) : Prop :=
  (d = false ∧ k ≤ posI l x ∧ out = l.take k) ∨ (d = true ∧ posI l x < k ∧ out = l.take (posI l x) ++ [x] ++ (l.drop (posI l x)).take (k - posI l x))
section
variable {l out : List Int} {x : Int} {k : Nat}
theorem take_gd (h : k < l.length) : l.take (k + 1) = l.take k ++ [l.getD k 0] := by
  rw [List.take_succ_eq_append_getElem h]; simp [h]
theorem po_a (_ : k ≤ posI l x) (ho : out = l.take k) (hA : Asc l) (hx : ¬ x ∈ l) (hk : k < l.length) (hc : ¬ x < l.getD k 0) : PO l x (k + 1) false (out ++ [l.getD k 0]) := by
  have hm := gd_mem hk
  have h1 : l.getD k 0 < x := by
    have : l.getD k 0 ≠ x := fun e => hx (e ▸ hm)
    omega
  have h2 := (posI_next hA hk).2 h1
  exact .inl ⟨rfl, h2, by rw [ho, take_gd hk]⟩
theorem po_b (h : k ≤ posI l x) (ho : out = l.take k) (hA : Asc l) (hk : k < l.length) (hc : x < l.getD k 0) : PO l x (k + 1) true (out ++ [x] ++ [l.getD k 0]) := by
  have h2 : ¬ k < posI l x := fun h3 => by have := (posI_next hA hk).1 h3; omega
  have h3 : posI l x = k := by omega
  refine .inr ⟨rfl, by omega, ?_⟩
  rw [ho, h3, show k + 1 - k = 1 by omega]
  congr 1
  rw [List.drop_eq_getElem_cons hk]
  show [l.getD k 0] = [l[k]]
  simp [hk]
theorem po_c (h : posI l x < k) (ho : out = l.take (posI l x) ++ [x] ++ (l.drop (posI l x)).take (k - posI l x)) (hk : k < l.length) : PO l x (k + 1) true (out ++ [l.getD k 0]) := by
  refine .inr ⟨rfl, by omega, ?_⟩
  have e : (l.drop (posI l x)).getD (k - posI l x) 0 = l.getD k 0 := by simp [show posI l x + (k - posI l x) = k by omega]
  rw [ho, show k + 1 - posI l x = (k - posI l x) + 1 by omega, take_gd (l := l.drop (posI l x)) (by rw [List.length_drop]; omega), ← List.append_assoc, e]
theorem dl_y (hd : out = dlI (l.take k) x) (hk : k < l.length) (h : l.getD k 0 = x) : out = dlI (l.take (k + 1)) x := by rw [dl_take hk, if_pos h, List.append_nil]; exact hd
theorem dl_n (hd : out = dlI (l.take k) x) (hk : k < l.length) (h : ¬ l.getD k 0 = x) : out ++ [l.getD k 0] = dlI (l.take (k + 1)) x := by rw [dl_take hk, if_neg h, hd]
theorem po_e1 (h : l.length ≤ posI l x) (ho : out = l.take l.length) : out ++ [x] = insI l x := by
  have := posI_le (l := l) (x := x)
  have e : posI l x = l.length := by omega
  unfold insI
  rw [ho, e]; simp
theorem po_e2 (ho : out = l.take (posI l x) ++ [x] ++ (l.drop (posI l x)).take (l.length - posI l x)) : out = insI l x := by
  unfold insI
  rw [ho]
  congr 1
  exact List.take_of_length_le (by rw [List.length_drop]; exact Nat.le_refl _)
theorem own_le {H : Heap} {B base e size n : Nat} {v : Value} {xs : List Value} (h : Own H base e size v n xs) (hB : B ≤ base) : Own H B e size v n xs :=
  ⟨h.1, h.2.imp id fun ⟨g, cap, cur, h1, h2, h3⟩ => ⟨g, cap, cur, h1, Nat.le_trans hB h2, h3⟩⟩
theorem own_apart {H : Heap} {b base e size n : Nat} {v : Value} {xs : List Value} (h : Own H base e size v n xs) (hb : b < base) : OwnApart b v := ⟨fun hg => by
  rcases h.2 with ⟨h2, _⟩ | ⟨g', cap, cur, h1, h2, _⟩
  · rw [h2] at hg; simp [Value.ownBlock] at hg
  · rw [h1] at hg; simp [Value.ownBlock] at hg; omega⟩
theorem drop_src {H : Heap} {xa : Option Addr} {gx ox xc : Nat} {E : List Se} (hxa : xa = some ⟨gx, ox, none⟩) (h : Row H gx ox (fL E)) (hc : E.length ≤ xc) (hk : k < E.length) : E.length - (k + 1) = 0 ∨ ∃ yb yo, cutA xa (k + 1) xc 2 = some ⟨yb, yo, none⟩ ∧ Row H yb yo (fL (E.drop (k + 1))) := by
  by_cases h1 : k + 1 = E.length
  · exact .inl (by omega)
  · exact .inr ⟨gx, ox + (k + 1) * 2, by rw [hxa]; exact cut_o (by omega), row_dropL h (by omega)⟩
theorem take_src {H : Heap} {xa : Option Addr} {gx ox xc : Nat} {E : List Se} (hxa : xa = some ⟨gx, ox, none⟩) (h : Row H gx ox (fL E)) (k : Nat) : k = 0 ∨ ∃ yb yo, cutA xa 0 xc 2 = some ⟨yb, yo, none⟩ ∧ Row H yb yo (fL (E.take k)) :=
  .inr ⟨gx, ox, by rw [hxa]; exact cut_o0, row_takeL h k⟩
theorem ldLs {H : Heap} {b o k : Nat} {E : List Se} (hb : Row H b o (fL E)) (hk : k < E.length) : Ld H b (o + k * 2) true 2 (.agg #[.slice (gE E k).ra (gE E k).rn.length (gE E k).rc, .slice (gE E k).wa (gE E k).wt.length (gE E k).wc]) :=
  ⟨csL (gE E k), rfl, rfl, fun i v hv => ldL hb hk i hv⟩
end
section
variable {S : List Sd} {f : Fn} {b o j x : Int}
theorem ask_no3 (h : askE S f b o j = x) (hx : x ≠ 0) : askR S f b o j = false ∧ askS S f b o j = S := by
  have h0 : ¬ askE S f b o j = 0 := by rw [h]; exact hx
  refine ⟨?_, if_neg h0⟩
  unfold askR; exact decide_eq_false (fun h => h0 h.1)
theorem ask_run3 (h : inP S.length b o) (h1 : isJ j) (h2 : f j = none) (h3 : ((gS S (kP b o)).rn.length : Int) < (gS S (kP b o)).sl) :
    askE S f b o j = 0 ∧ askR S f b o j = true ∧ (askS S f b o j).map lnS = (S.map lnS).set (kP b o) (insI (gS S (kP b o)).rn j, (gS S (kP b o)).wt) := by
  have h4 : ¬ (f j).isSome = true := by rw [h2]; decide
  have h0 : askE S f b o j = 0 := (if_neg (fun h2 => h2 h)).trans ((if_neg (fun h3 => h3 h1)).trans ((if_neg h4).trans (if_pos h3)))
  refine ⟨h0, ?_, ?_⟩
  · unfold askR; exact decide_eq_true ⟨h0, h3⟩
  · rw [(ask_run h h1 h4 h3).2.1, List.map_set]; rfl
theorem ask_wait3 (h : inP S.length b o) (h1 : isJ j) (h2 : f j = none) (h3 : ¬ ((gS S (kP b o)).rn.length : Int) < (gS S (kP b o)).sl) (h5 : ¬ ((gS S (kP b o)).sl = 0 ∨ 8 ≤ (gS S (kP b o)).wt.length)) :
    askE S f b o j = 0 ∧ askR S f b o j = false ∧ (askS S f b o j).map lnS = (S.map lnS).set (kP b o) ((gS S (kP b o)).rn, (gS S (kP b o)).wt ++ [j]) := by
  have h4 : ¬ (f j).isSome = true := by rw [h2]; decide
  have h0 : askE S f b o j = 0 := (if_neg (fun h2 => h2 h)).trans ((if_neg (fun h3 => h3 h1)).trans ((if_neg h4).trans ((if_neg h3).trans (if_neg h5))))
  refine ⟨h0, ?_, ?_⟩
  · unfold askR; exact decide_eq_false (fun h => h3 h.2)
  · rw [(ask_wait h h1 h4 h3 h5).2.1, List.map_set]; rfl
end
/-! How many stand ahead. -/
def WHI (l : List Int) (j : Int) (i : Nat) (ah : Int) : Prop := (ah = -1 ∧ ∀ n, n < i → l.getD n 0 ≠ j) ∨ ∃ n : Nat, n < i ∧ ah = n ∧ l.getD n 0 = j
section
variable {l : List Int} {j ah : Int} {i : Nat}
theorem whi_y (_ : i < l.length) (h : l.getD i 0 = j) : WHI l j (i + 1) (i : Nat) := .inr ⟨i, Nat.lt_succ_self i, rfl, h⟩
theorem whi_n (h : WHI l j i ah) (hn : ¬ l.getD i 0 = j) : WHI l j (i + 1) ah := by
  rcases h with ⟨h1, h2⟩ | ⟨n, h1, h2⟩
  · exact .inl ⟨h1, nx_all h2 hn⟩
  · exact .inr ⟨n, Nat.lt_succ_of_lt h1, h2⟩
theorem nodup_gd (hn : l.Nodup) {x y : Nat} (hx : x < l.length) (hy : y < l.length) (h : l.getD x 0 = l.getD y 0) : x = y := by
  have h1 : l[x] = l[y] := by simpa [hx, hy] using h
  exact (List.getElem_inj hn).1 h1
theorem whi_end (hn : l.Nodup) (hi : i = l.length) (h : WHI l j i ah) : ah = idI l j := by
  subst hi
  rcases h with ⟨h1, h2⟩ | ⟨n, h1, h2, h3⟩
  · rw [h1, idI_none (not_in h2)]
  · rw [h2, idI_at h1 h3 (fun x hx e => by
      have := nodup_gd hn (show x < l.length by omega) h1 (e.trans h3.symm)
      omega)]
end
section
variable {S : List Sd} {f : Fn} {j : Int} {k : Nat}
theorem lev3 (hof : f j = some (k : Int)) : levE f j = 0 ∧ levN S f j = levM (gS S k) j ∧ (levS S f j).map lnS = (S.map lnS).set k (lnS (levD (gS S k) j)) := by
  have h : (f j).isSome = true := by rw [hof]; rfl
  unfold levE levN levS
  rw [if_pos h, if_pos h, if_pos h, levK_of hof, List.map_set]
  exact ⟨rfl, rfl, rfl⟩
theorem lev3n (hof : f j = none) : levE f j = 3 ∧ levN S f j = 0 ∧ levS S f j = S := by
  have h : ¬ (f j).isSome = true := by rw [hof]; decide
  unfold levE levN levS
  rw [if_neg h, if_neg h, if_neg h]
  exact ⟨rfl, rfl, rfl⟩
end
end Go.XG
