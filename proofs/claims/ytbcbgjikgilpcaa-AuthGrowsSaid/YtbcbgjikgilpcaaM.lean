/-
  Corporations in memory.
-/
import Derived.Test.YtbcbgjikgilpcaaGb
import Derived.Test.YtbcbgjikgilpcaaTo
import Derived.Test.YtbcbgjikgilpcaaXz
namespace Go.XG
/-- Lists of members behind slices. -/
def Mems (H : Heap) (hs : List Value) (X : List (List (List Int))) : Prop :=
  hs.length = X.length ∧ ∀ i, i < X.length → ∃ ai ci, hs[i]? = some (.slice ai (gM X i).length ci) ∧ RowsT H 56 2 ai (gM X i)
section
variable {H H1 : Heap} {b k n c g base : Nat} {a : Option Addr} {hs : List Value} {X : List (List (List Int))} {l : List (List Int)} {t e2 size : Nat} {cs xs : List Value} {v : Value}
theorem Mems.ext (h : Mems H hs X) (e : Ext H H1) : Mems H1 hs X := ⟨h.1, fun i hi => by
  obtain ⟨a, c, h1, h2⟩ := h.2 i hi; exact ⟨a, c, h1, h2.ext e⟩⟩
theorem Mems.offT (h : Mems H hs X) (hb : Blk H b cs t) (u : But b H H1) (hne : Nat.beq t 56 = false) : Mems H1 hs X := ⟨h.1, fun i hi => by
  obtain ⟨a, c, h1, h2⟩ := h.2 i hi; exact ⟨a, c, h1, h2.offT hb u hne⟩⟩
theorem Mems.growT (h : Mems H hs X) (o : Own H base e2 size v n xs) (gr : Gr v.ownBlock H H1) (hne : Nat.beq 56 e2 = false) : Mems H1 hs X := ⟨h.1, fun i hi => by
  obtain ⟨a, c, h1, h2⟩ := h.2 i hi; exact ⟨a, c, h1, h2.growT o gr hne⟩⟩
theorem Mems.nil : Mems H [] [] := ⟨rfl, fun i hi => absurd hi (by simp)⟩
theorem Mems.snoc (h : Mems H hs X) (hr : RowsT H 56 2 a l) : Mems H (hs ++ [.slice a l.length c]) (X ++ [l]) := by
  refine ⟨by simp [h.1], fun i hi => ?_⟩
  rw [List.length_append, List.length_singleton] at hi
  have hl := h.1
  rcases Nat.lt_or_ge i X.length with h1 | h1
  · obtain ⟨a', c', h2, h3⟩ := h.2 i h1
    have e : gM (X ++ [l]) i = gM X i := by simp [gM, List.getElem?_append_left h1]
    rw [e]
    exact ⟨a', c', by rw [List.getElem?_append_left (by omega)]; exact h2, h3⟩
  · have : i = X.length := by omega
    subst this
    have e : gM (X ++ [l]) X.length = l := by simp [gM]
    rw [e]
    exact ⟨a, c, by rw [← hl]; simp, hr⟩
theorem Mems.set (h : Mems H hs X) (hk : k < X.length) (hr : RowsT H 56 2 a l) : Mems H (hs.set k (.slice a l.length c)) (X.set k l) := by
  refine ⟨by simp [h.1], fun i hi => ?_⟩
  rw [List.length_set] at hi
  have hl := h.1
  by_cases e : k = i
  · subst e
    have e2 : gM (X.set k l) k = l := by simp [gM, hk]
    rw [e2]
    exact ⟨a, c, by simp [hl, hk], hr⟩
  · obtain ⟨a', c', h2, h3⟩ := h.2 i hi
    have e2 : gM (X.set k l) i = gM X i := by simp [gM, List.getElem?_set_ne e]
    rw [e2]
    exact ⟨a', c', by rw [List.getElem?_set_ne e]; exact h2, h3⟩
theorem row_ext' {H H1 : Heap} {b n : Nat} {cs : List Value} (h : Row H b n cs) (e : Ext H H1) : Row H1 b n cs := fun i v hv => cellAt_ext (h i v hv) e
/-- A block that is older than B, or of a type. -/
def Okb (H : Heap) (B t g : Nat) : Prop := (g < B ∨ ∃ cs, Blk H g cs t) ∧ g < H.size
theorem blk_lt (h : Blk H b cs t) : b < H.size := h.lt
theorem Okb.ext {B t g : Nat} (h : Okb H B t g) (e : Ext H H1) : Okb H1 B t g := ⟨h.1.imp id fun ⟨cs, h⟩ => ⟨cs, h.ext e⟩, Nat.lt_of_lt_of_le h.2 e.size⟩
/-- What a call on the corporations turns: their block, and blocks of lists of members since B. -/
def GF (H : Heap) (bp B : Nat) (i : Nat) : Prop := i = bp ∨ (B ≤ i ∧ ∃ cs, Blk H i cs 52)
theorem Okb.notF {B t g bp : Nat} (h : Okb H B t g) (hp : ∃ cs, Blk H bp cs 47) (hB : B ≤ bp) (h1 : Nat.beq 47 t = false) (h2 : Nat.beq 52 t = false) : ¬ GF H bp B g := by
  obtain ⟨pcs, hp⟩ := hp
  rintro (rfl | ⟨h3, cs, h4⟩)
  · rcases h.1 with h5 | ⟨cs, h5⟩
    · omega
    · exact hp.ne h5 h1 rfl
  · rcases h.1 with h5 | ⟨cs', h5⟩
    · omega
    · exact h4.ne h5 h2 rfl
theorem Okb.keep {B t g bp : Nat} (h : Okb H B t g) (k : KeepF (GF H bp B) H H1) (hp : ∃ cs, Blk H bp cs 47) (hB : B ≤ bp) (h1 : Nat.beq 47 t = false) (h2 : Nat.beq 52 t = false) : Okb H1 B t g := by
  refine ⟨?_, Nat.lt_of_lt_of_le h.2 k.size⟩
  rcases h.1 with h5 | ⟨cs, h5⟩
  · exact .inl h5
  · exact .inr ⟨cs, h5.keep k (h.notF hp hB h1 h2)⟩
/-- Members that lie in such a block. -/
def RowsB (H : Heap) (B : Nat) (a : Option Addr) (l : List (List Int)) : Prop := Wide 2 l ∧ (l = [] ∨ ∃ g o, a = some ⟨g, o, none⟩ ∧ Okb H B 56 g ∧ RowsAt H g o 2 l)
theorem RowsB.ext {B : Nat} (h : RowsB H B a l) (e : Ext H H1) : RowsB H1 B a l := ⟨h.1, h.2.imp id fun ⟨g, o, h1, h2, h3⟩ => ⟨g, o, h1, h2.ext e, fun i hi j v hv => cellAt_ext (h3 i hi j v hv) e⟩⟩
theorem rowsAt_keepF {F : Nat → Prop} {o : Nat} (h : RowsAt H g o 2 l) (k : KeepF F H H1) (hn : ¬ F g) : RowsAt H1 g o 2 l := rowsAt_keep h k hn
theorem RowsB.keep {B bp : Nat} (h : RowsB H B a l) (k : KeepF (GF H bp B) H H1) (hp : ∃ cs, Blk H bp cs 47) (hB : B ≤ bp) : RowsB H1 B a l :=
  ⟨h.1, h.2.imp id fun ⟨g, o, h1, h2, h3⟩ => ⟨g, o, h1, h2.keep k hp hB rfl rfl, rowsAt_keepF h3 k (h2.notF hp hB rfl rfl)⟩⟩
theorem RowsB.rows {B : Nat} (h : RowsB H B a l) : Rows H a 2 l := ⟨h.1, by
  rcases h.2 with rfl | ⟨g, o, h1, _, h3⟩
  · exact .inl rfl
  · exact .inr ⟨g, o, h1, h3⟩⟩
theorem RowsT.toB {B : Nat} (h : RowsT H 56 2 a l) : RowsB H B a l := ⟨h.wide, by
  rcases h.h with h0 | ⟨g, o, cs, h1, h2, h3⟩
  · exact .inl h0
  · refine .inr ⟨g, o, h1, ⟨.inr ⟨cs, h2⟩, h2.lt⟩, ?_⟩
    rcases h.rows.2 with h4 | ⟨g', o', h4, h5⟩
    · intro i hi; omega
    · rw [h1] at h4; cases h4; exact h5⟩
theorem rowsB_new {B : Nat} (h : Rows H a 2 l) (hB : H.size ≤ B) : RowsB H B a l := ⟨h.1, by
  rcases h.2 with h0 | ⟨g, o, h1, h2⟩
  · exact .inl (List.length_eq_zero_iff.1 h0)
  · by_cases hl : l.length = 0
    · exact .inl (List.length_eq_zero_iff.1 hl)
    · have := rowsAt_lt h2 h.1 (by decide) hl
      exact .inr ⟨g, o, h1, ⟨.inl (by omega), this⟩, h2⟩⟩
/-- Corporations with numbers, in a slice. -/
def DAt (H : Heap) (B g o : Nat) (D : List (Int × List (List Int))) : Prop := ∀ i, i < D.length → ∃ ai ci, Row H g (o + i * 2) [.int .i64 (gD D i).1, .slice ai (gD D i).2.length ci] ∧ RowsB H B ai (gD D i).2
def DK (H : Heap) (B : Nat) (a : Option Addr) (D : List (Int × List (List Int))) : Prop := D = [] ∨ ∃ g o, a = some ⟨g, o, none⟩ ∧ Okb H B 54 g ∧ DAt H B g o D
variable {B bp o : Nat} {D : List (Int × List (List Int))}
theorem DAt.ext (h : DAt H B g o D) (e : Ext H H1) : DAt H1 B g o D := fun i hi => by
  obtain ⟨a, c, h1, h2⟩ := h i hi; exact ⟨a, c, fun j v hv => cellAt_ext (h1 j v hv) e, h2.ext e⟩
theorem DK.ext (h : DK H B a D) (e : Ext H H1) : DK H1 B a D := h.imp id fun ⟨g, o, h1, h2, h3⟩ => ⟨g, o, h1, h2.ext e, h3.ext e⟩
theorem cellAt_keep {F : Nat → Prop} {i : Nat} (h : cellAt H b i = some v) (k : KeepF F H H1) (hn : ¬ F b) : cellAt H1 b i = some v := by
  have := k.same b (cellAt_lt h) hn
  unfold cellAt at h ⊢; rw [this]; exact h
theorem DK.keep (h : DK H B a D) (k : KeepF (GF H bp B) H H1) (hp : ∃ cs, Blk H bp cs 47) (hB : B ≤ bp) : DK H1 B a D := h.imp id fun ⟨g, o, h1, h2, h3⟩ =>
  ⟨g, o, h1, h2.keep k hp hB rfl rfl, fun i hi => by
    obtain ⟨a, c, h4, h5⟩ := h3 i hi
    exact ⟨a, c, fun j v hv => cellAt_keep (h4 j v hv) k (h2.notF hp hB rfl rfl), h5.keep k hp hB⟩⟩
theorem DK.at' (h : DK H B a D) : ∃ g o, 0 < D.length → a = some ⟨g, o, none⟩ ∧ DAt H B g o D := by
  rcases h with h0 | ⟨g, o, h1, _, h3⟩
  · exact ⟨0, 0, fun h => by rw [h0] at h; exact absurd h (by simp)⟩
  · exact ⟨g, o, fun _ => ⟨h1, h3⟩⟩
/-- The cells of corporations. -/
def ecs (E : List (Int × Value)) : List Value := E.flatMap fun e => [.int .i64 e.1, e.2]
def EM (H : Heap) (B : Nat) (E : List (Int × Value)) (D : List (Int × List (List Int))) : Prop :=
  E.length = D.length ∧ ∀ j, j < D.length → ∃ a c, E[j]? = some ((gD D j).1, .slice a (gD D j).2.length c) ∧ RowsB H B a (gD D j).2
def EMT (H : Heap) (E : List (Int × Value)) (D : List (Int × List (List Int))) : Prop :=
  E.length = D.length ∧ ∀ j, j < D.length → ∃ a c, E[j]? = some ((gD D j).1, .slice a (gD D j).2.length c) ∧ RowsT H 56 2 a (gD D j).2
theorem EMT.toB {E : List (Int × Value)} (h : EMT H E D) : EM H B E D := ⟨h.1, fun j hj => by obtain ⟨a, c, h1, h2⟩ := h.2 j hj; exact ⟨a, c, h1, h2.toB⟩⟩
theorem EMT.ext {E : List (Int × Value)} (h : EMT H E D) (e : Ext H H1) : EMT H1 E D := ⟨h.1, fun j hj => by obtain ⟨a, c, h1, h2⟩ := h.2 j hj; exact ⟨a, c, h1, h2.ext e⟩⟩
theorem EMT.offT {E : List (Int × Value)} (h : EMT H E D) (hb : Blk H b cs t) (u : But b H H1) (hne : Nat.beq t 56 = false) : EMT H1 E D := ⟨h.1, fun j hj => by
  obtain ⟨a, c, h1, h2⟩ := h.2 j hj; exact ⟨a, c, h1, h2.offT hb u hne⟩⟩
theorem EMT.growT {E : List (Int × Value)} (h : EMT H E D) (o : Own H base e2 size v n xs) (gr : Gr v.ownBlock H H1) (hne : Nat.beq 56 e2 = false) : EMT H1 E D := ⟨h.1, fun j hj => by
  obtain ⟨a, c, h1, h2⟩ := h.2 j hj; exact ⟨a, c, h1, h2.growT o gr hne⟩⟩
theorem EM.ext {E : List (Int × Value)} (h : EM H B E D) (e : Ext H H1) : EM H1 B E D := ⟨h.1, fun j hj => by obtain ⟨a, c, h1, h2⟩ := h.2 j hj; exact ⟨a, c, h1, h2.ext e⟩⟩
variable {E E2 : List (Int × Value)} {D2 : List (Int × List (List Int))}
theorem gD_app1 {i : Nat} (h : i < D.length) : gD (D ++ D2) i = gD D i := by simp [gD, List.getElem?_append_left h]
theorem gD_app2 {i : Nat} (h : D.length ≤ i) : gD (D ++ D2) i = gD D2 (i - D.length) := by simp [gD, List.getElem?_append_right h]
theorem EM.app (h : EM H B E D) (h2 : EM H B E2 D2) : EM H B (E ++ E2) (D ++ D2) := by
  refine ⟨by simp [h.1, h2.1], fun j hj => ?_⟩
  rw [List.length_append] at hj
  rcases Nat.lt_or_ge j D.length with h3 | h3
  · obtain ⟨a, c, h4, h5⟩ := h.2 j h3
    rw [gD_app1 h3]
    exact ⟨a, c, by rw [List.getElem?_append_left (by rw [h.1]; exact h3)]; exact h4, h5⟩
  · obtain ⟨a, c, h4, h5⟩ := h2.2 (j - D.length) (by omega)
    rw [gD_app2 h3]
    exact ⟨a, c, by rw [List.getElem?_append_right (by rw [h.1]; exact h3), h.1]; exact h4, h5⟩
theorem EMT.snoc {id : Int} (h : EMT H E D) (hr : RowsT H 56 2 a l) : EMT H (E ++ [(id, .slice a l.length c)]) (D ++ [(id, l)]) := by
  refine ⟨by simp [h.1], fun j hj => ?_⟩
  rw [List.length_append, List.length_singleton] at hj
  rcases Nat.lt_or_ge j D.length with h3 | h3
  · obtain ⟨a', c', h4, h5⟩ := h.2 j h3
    rw [gD_app1 h3]
    exact ⟨a', c', by rw [List.getElem?_append_left (by rw [h.1]; exact h3)]; exact h4, h5⟩
  · obtain rfl : j = D.length := by omega
    rw [gD_app2 (Nat.le_refl _), Nat.sub_self]
    exact ⟨a, c, by rw [← h.1]; simp, hr⟩
theorem EMT.nil : EMT H [] [] := ⟨rfl, fun j hj => absurd hj (by simp)⟩
theorem EM.one {id : Int} (hr : RowsB H B a l) : EM H B [(id, .slice a l.length c)] [(id, l)] := by
  refine ⟨rfl, fun j hj => ?_⟩
  obtain rfl : j = 0 := by simpa using hj
  exact ⟨a, c, rfl, hr⟩
theorem EM.take (h : EM H B E D) (k : Nat) : EM H B (E.take k) (D.take k) := by
  refine ⟨by simp [h.1], fun j hj => ?_⟩
  rw [List.length_take] at hj
  obtain ⟨a, c, h4, h5⟩ := h.2 j (by omega)
  have e : gD (D.take k) j = gD D j := by simp [gD, List.getElem?_take, show j < k by omega]
  rw [e]
  exact ⟨a, c, by rw [List.getElem?_take, if_pos (by omega)]; exact h4, h5⟩
theorem EM.drop (h : EM H B E D) (k : Nat) : EM H B (E.drop k) (D.drop k) := by
  refine ⟨by simp [h.1], fun j hj => ?_⟩
  rw [List.length_drop] at hj
  obtain ⟨a, c, h4, h5⟩ := h.2 (k + j) (by omega)
  have e : gD (D.drop k) j = gD D (k + j) := by simp [gD, List.getElem?_drop]
  rw [e]
  exact ⟨a, c, by rw [List.getElem?_drop]; exact h4, h5⟩
theorem ecs_app : ecs (E ++ E2) = ecs E ++ ecs E2 := by simp [ecs]
theorem ecs_len : ∀ E : List (Int × Value), (ecs E).length = E.length * 2
  | [] => rfl
  | e :: E => by
    have := ecs_len E
    simp only [ecs, List.flatMap_cons, List.length_append, List.length_cons, List.length_nil] at this ⊢
    omega
theorem ecs_get : ∀ (E : List (Int × Value)) (k : Nat) (e : Int × Value), E[k]? = some e → (ecs E)[k * 2]? = some (.int .i64 e.1) ∧ (ecs E)[k * 2 + 1]? = some e.2
  | [], k, e, h => by simp at h
  | x :: E, 0, e, h => by
    obtain rfl : x = e := by simpa using h
    exact ⟨rfl, rfl⟩
  | x :: E, k + 1, e, h => by
    have := ecs_get E k e (by simpa using h)
    show (Value.int .i64 x.1 :: x.2 :: ecs E)[(k + 1) * 2]? = _ ∧ (Value.int .i64 x.1 :: x.2 :: ecs E)[(k + 1) * 2 + 1]? = _
    rw [show (k + 1) * 2 = k * 2 + 1 + 1 by omega, show k * 2 + 1 + 1 + 1 = (k * 2 + 1) + 1 + 1 by omega]
    simp only [List.getElem?_cons_succ]
    exact this
theorem ecs_one (h : EM H B E D) : ∀ u ∈ ecs E, u.oneCell' = true := by
  intro u hu
  unfold ecs at hu
  obtain ⟨e, he, hu⟩ := List.mem_flatMap.1 hu
  obtain ⟨j, hj, rfl⟩ := List.getElem_of_mem he
  obtain ⟨a, c, h1, _⟩ := h.2 j (by rw [← h.1]; exact hj)
  rw [List.getElem?_eq_getElem hj] at h1
  injection h1 with h1
  rw [h1] at hu
  simp at hu
  rcases hu with rfl | rfl <;> rfl
theorem em_DAt (h : EM H B E D) (hr : Row H g o (ecs E)) : DAt H B g o D := fun i hi => by
  obtain ⟨a, c, h1, h2⟩ := h.2 i hi
  obtain ⟨h3, h4⟩ := ecs_get E i _ h1
  refine ⟨a, c, fun j v hv => ?_, h2⟩
  match j, hv with
  | 0, hv => cases hv; exact hr _ _ h3
  | 1, hv => cases hv; have := hr _ _ h4; rw [← Nat.add_assoc] at this; exact this
theorem own_DK (h : Own H base 54 2 (.slice a n c) n (ecs E)) (he : EM H B E D) : DK H B a D := by
  rcases own_blk2 h with ⟨h1, h2, _⟩ | ⟨g, ex, h1, h2, _⟩
  · have := h.len
    rw [ecs_len, h2, Nat.zero_mul] at this
    exact .inl (List.length_eq_zero_iff.1 (by rw [← he.1]; omega))
  · exact .inr ⟨g, 0, h1, ⟨.inr ⟨_, h2⟩, h2.lt⟩, em_DAt he h2.row.pre⟩
theorem DK.em (h : DK H B a D) : ∃ E, EM H B E D ∧ (D.length = 0 ∨ ∃ g o, a = some ⟨g, o, none⟩ ∧ Row H g o (ecs E)) := by
  rcases h with h0 | ⟨g, o, h1, _, h3⟩
  · subst h0; exact ⟨[], ⟨rfl, fun j hj => absurd hj (by simp)⟩, .inl rfl⟩
  · obtain ⟨E, hl, hE⟩ := collect ((0, .bool false) : Int × Value) (R := fun i e => e.1 = (gD D i).1 ∧ ∃ a c, e.2 = .slice a (gD D i).2.length c ∧ Row H g (o + i * 2) [.int .i64 e.1, e.2] ∧ RowsB H B a (gD D i).2) D.length (fun i hi => by
      obtain ⟨a, c, h4, h5⟩ := h3 i hi
      exact ⟨((gD D i).1, .slice a (gD D i).2.length c), rfl, a, c, rfl, h4, h5⟩)
    refine ⟨E, ⟨hl, fun j hj => ?_⟩, .inr ⟨g, o, h1, ?_⟩⟩
    · obtain ⟨h4, a, c, h5, _, h7⟩ := hE j hj
      refine ⟨a, c, ?_, h7⟩
      have e : E.getD j (0, .bool false) = E[j]'(by omega) := by simp [hl, hj]
      rw [e] at h4 h5
      rw [List.getElem?_eq_getElem (by omega)]
      exact congrArg some (Prod.ext h4 h5)
    · have key : ∀ (E : List (Int × Value)) (o : Nat), (∀ i, i < E.length → Row H g (o + i * 2) [.int .i64 (E.getD i (0, .bool false)).1, (E.getD i (0, .bool false)).2]) → Row H g o (ecs E) := by
        intro E
        induction E with
        | nil => intro o _ j v hv; simp [ecs] at hv
        | cons e E ih =>
          intro o hE
          have h0 := hE 0 (by simp)
          have h1 := ih (o + 2) (fun i hi => by
            have := hE (i + 1) (by simpa using hi)
            rw [show o + (i + 1) * 2 = o + 2 + i * 2 by omega] at this
            simpa using this)
          intro j v hv
          match j, hv with
          | 0, hv => exact h0 0 v (by simpa [ecs] using hv)
          | 1, hv => exact h0 1 v (by simpa [ecs] using hv)
          | j + 2, hv =>
            have := h1 j v (by simpa [ecs] using hv)
            rwa [show o + 2 + j = o + (j + 2) by omega] at this
      exact key E o fun i hi => by
        obtain ⟨_, a, c, h5, h6, _⟩ := hE i (by omega)
        exact h6
/-! The program's object. -/
theorem app_get {hs ex : List Value} {k : Nat} {v : Value} (h : hs[k]? = some v) : (hs ++ ex)[k]? = some v := by
  have : k < hs.length := by
    rcases Nat.lt_or_ge k hs.length with h1 | h1
    · exact h1
    · rw [List.getElem?_eq_none h1] at h; cases h
  rw [List.getElem?_append_left this]; exact h
theorem ld_hs {ex : List Value} {k : Nat} (h : Blk H g (hs ++ ex) t) (hk : hs[k]? = some v) : cellAt H g (0 + k * 1) = some v := by
  rw [Nat.zero_add, Nat.mul_one]
  have := h.row k v (app_get hk)
  rwa [Nat.zero_add] at this
theorem mems_one (h : Mems H hs X) : ∀ u ∈ hs, u.oneCell' = true := by
  intro u hu
  obtain ⟨j, hj, rfl⟩ := List.getElem_of_mem hu
  obtain ⟨a, c, h1, _⟩ := h.2 j (by rw [← h.1]; exact hj)
  rw [List.getElem?_eq_getElem hj] at h1
  injection h1 with h1
  rw [h1]; rfl
def GAt (H : Heap) (bp B : Nat) (X : List (List (List Int))) : Prop := ∃ a c hs, Blk H bp [.slice a X.length c] 47 ∧ Own H B 52 1 (.slice a X.length c) X.length hs ∧ Mems H hs X
theorem GAt.ext (h : GAt H bp B X) (e : Ext H H1) : GAt H1 bp B X := by
  obtain ⟨a, c, hs, h1, h2, h3⟩ := h; exact ⟨a, c, hs, h1.ext e, h2.ext e, h3.ext e⟩
theorem GAt.blk (h : GAt H bp B X) : ∃ cs, Blk H bp cs 47 := by obtain ⟨a, c, hs, h1, _⟩ := h; exact ⟨_, h1⟩
end
theorem own_src {H : Heap} {a : Option Addr} {base n c t : Nat} {hs : List Value} (h : Own H base t 1 (.slice a n c) n hs) : n = 0 ∨ ∃ yb yo, a = some ⟨yb, yo, none⟩ ∧ Row H yb yo hs := by
  rcases own_blk2 h with ⟨_, h2, _⟩ | ⟨g, ex, h1, h2, _⟩
  · exact .inl h2
  · exact .inr ⟨g, 0, h1, h2.row.pre⟩
theorem ecs_one1 {id : Int} {x : Value} : ecs [(id, x)] = [.int .i64 id, x] := rfl
theorem tg_take {X : List (List (List Int))} {k : Nat} (h : k < X.length) : (tg X).take (k + 1) = (tg X).take k ++ [(101 + (k : Int), gM X k)] := by
  have h1 : k < (tg X).length := by rw [tg_len]; exact h
  have h2 := tg_get h
  rw [List.take_add_one, List.getElem?_eq_getElem h1]
  have e : gD (tg X) k = (tg X)[k] := by simp [gD, h1]
  rw [e] at h2
  rw [h2]; rfl
theorem own_GF {H : Heap} {a : Option Addr} {B bp n c : Nat} {hs : List Value} (h : Own H B 52 1 (.slice a n c) n hs) : ∀ i, (Value.slice a n c).ownBlock = some i → GF H bp B i := fun i hi => by
  rcases own_blk2 h with ⟨h1, _⟩ | ⟨g, ex, h1, h2, h3, _⟩
  · rw [h1] at hi; cases hi
  · rw [h1] at hi
    have : g = i := by simpa [Value.ownBlock] using hi
    subst this; exact .inr ⟨h3, _, h2⟩
theorem ext_keepGF {H H1 H2 : Heap} {bp B : Nat} (e : Ext H H1) (k : KeepF (GF H1 bp B) H1 H2) : KeepF (GF H bp B) H H2 := by
  refine ⟨Nat.le_trans e.size k.size, fun i hi hn => ?_⟩
  rw [k.same i (Nat.lt_of_lt_of_le hi e.size) (fun h => hn ?_), e.same i hi]
  rcases h with h | ⟨h1, cs, h2⟩
  · exact .inl h
  · refine .inr ⟨h1, cs, ?_⟩
    unfold Blk at h2 ⊢
    rw [← e.same i hi]; exact h2
theorem set_hs {hs ex : List Value} {k : Nat} {v : Value} (h : k < hs.length) : setRange (hs ++ ex) (0 + k * 1) [v] = hs.set k v ++ ex := by
  rw [Nat.zero_add, Nat.mul_one]
  show (hs ++ ex).set k v = _
  rw [List.set_append_left _ _ h]
theorem ld_d {H : Heap} {B g o k : Nat} {D : List (Int × List (List Int))} (h : DAt H B g o D) (hk : k < D.length) : ∃ aj cj, Ld H g (o + k * 2) true 2 (.agg #[.int .i64 (gD D k).1, .slice aj (gD D k).2.length cj]) ∧ RowsB H B aj (gD D k).2 ∧ cellAt H g (o + k * 2) = some (.int .i64 (gD D k).1) ∧ cellAt H g (o + k * 2 + 1) = some (.slice aj (gD D k).2.length cj) := by
  obtain ⟨aj, cj, h1, h2⟩ := h k hk
  exact ⟨aj, cj, ⟨_, rfl, rfl, h1⟩, h2, h1 0 _ rfl, h1 1 _ rfl⟩
theorem ecs_takeR {H : Heap} {g o : Nat} {E : List (Int × Value)} (h : Row H g o (ecs E)) (k : Nat) : Row H g o (ecs (E.take k)) := by
  have e : ecs E = ecs (E.take k) ++ ecs (E.drop k) := by rw [← ecs_app, List.take_append_drop]
  rw [e] at h; exact h.pre
theorem ecs_dropR {H : Heap} {g o : Nat} {E : List (Int × Value)} (h : Row H g o (ecs E)) {k : Nat} (hk : k ≤ E.length) : Row H g (o + k * 2) (ecs (E.drop k)) := fun j v hv => by
  have e : ecs E = ecs (E.take k) ++ ecs (E.drop k) := by rw [← ecs_app, List.take_append_drop]
  have hl : (ecs (E.take k)).length = k * 2 := by rw [ecs_len, List.length_take, Nat.min_eq_left hk]
  have := h (k * 2 + j) v (by rw [e, List.getElem?_append_right (by omega), hl, Nat.add_sub_cancel_left]; exact hv)
  rwa [← Nat.add_assoc] at this
theorem ecs_takeM {E : List (Int × Value)} {k : Nat} {u : Value} (h : u ∈ ecs (E.take k)) : u ∈ ecs E := by
  have e : ecs E = ecs (E.take k) ++ ecs (E.drop k) := by rw [← ecs_app, List.take_append_drop]
  rw [e]; exact List.mem_append_left _ h
theorem ecs_dropM {E : List (Int × Value)} {k : Nat} {u : Value} (h : u ∈ ecs (E.drop k)) : u ∈ ecs E := by
  have e : ecs E = ecs (E.take k) ++ ecs (E.drop k) := by rw [← ecs_app, List.take_append_drop]
  rw [e]; exact List.mem_append_right _ h
theorem tupl {a : Option Addr} {n m c : Nat} {x : Int} (h : n = m) : Value.tuple #[.slice a n c, .int .i64 x] = .tuple #[.slice a m c, .int .i64 x] := by rw [h]
theorem tupl3 {a : Option Addr} {n m c : Nat} {x y z : Int} (h : n = m) (h2 : x = y) : Value.tuple #[.slice a n c, .int .i64 x, .int .i64 z] = .tuple #[.slice a m c, .int .i64 y, .int .i64 z] := by rw [h, h2]
theorem cut_row {H : Heap} {a : Option Addr} {g o k m : Nat} {cs : List Value} (ha : a = some ⟨g, o, none⟩) (hk : k ≠ m) (h : Row H g (o + k * 2) cs) : ∃ yb yo, cutA a k m 2 = some ⟨yb, yo, none⟩ ∧ Row H yb yo cs := by
  subst ha
  refine ⟨g, o + k * 2, ?_, h⟩
  unfold cutA; rw [if_neg (fun e => hk e.symm)]; simp [addr_add]
theorem set_DK {H : Heap} {a6 am : Option Addr} {base n6 c6 B0 k cm : Nat} {X : List (List (List Int))} {l : List (List Int)} {E : List (Int × Value)} (hk : k < X.length) (hE : EM H B0 E (tg X))
    (ho : Own H base 54 2 (.slice a6 n6 c6) n6 ([] ++ ecs (E.take k) ++ [.int .i64 (101 + (k : Int)), .slice am l.length cm] ++ ecs (E.drop (k + 1)))) (hQ : RowsT H 56 2 am l) : DK H B0 a6 (tg (X.set k l)) := by
  have e : [] ++ ecs (E.take k) ++ [Value.int .i64 (101 + (k : Int)), .slice am l.length cm] ++ ecs (E.drop (k + 1)) = ecs (E.take k ++ [(101 + (k : Int), .slice am l.length cm)] ++ E.drop (k + 1)) := by
    rw [ecs_app, ecs_app]; rfl
  rw [e] at ho
  show DK H B0 a6 (tgF 101 (X.set k l))
  rw [tgF_set hk]
  exact own_DK ho (((hE.take k).app (EM.one hQ.toB)).app (hE.drop (k + 1)))
theorem fou_DK {H : Heap} {a6 am : Option Addr} {base n6 c6 B0 cm : Nat} {X : List (List (List Int))} {l : List (List Int)} {E : List (Int × Value)} (hE : EM H B0 E (tg X))
    (ho : Own H base 54 2 (.slice a6 n6 c6) n6 ([] ++ ecs E ++ [.int .i64 (101 + (X.length : Int)), .slice am l.length cm])) (hQ : RowsT H 56 2 am l) : DK H B0 a6 (tg (X ++ [l])) := by
  have e : [] ++ ecs E ++ [Value.int .i64 (101 + (X.length : Int)), .slice am l.length cm] = ecs (E ++ [(101 + (X.length : Int), .slice am l.length cm)]) := by
    rw [ecs_app]; rfl
  rw [e] at ho
  show DK H B0 a6 (tgF 101 (X ++ [l]))
  rw [tgF_app]
  exact own_DK ho (hE.app (EM.one hQ.toB))
theorem own_le {H : Heap} {a : Option Addr} {base e size n c : Nat} {xs : List Value} (h : Own H base e size (.slice a n c) n xs) : n ≤ c := by
  rcases own_blk2 h with ⟨_, h1, _⟩ | ⟨_, _, _, _, _, h3, _⟩ <;> omega
/-- Numbers in a slice. -/
def Ints (H : Heap) (a : Option Addr) (l : List Int) : Prop := l = [] ∨ ∃ g o, a = some ⟨g, o, none⟩ ∧ Row H g o (ints l)
section
variable {H H1 : Heap} {a : Option Addr} {l : List Int} {base n c : Nat}
theorem Ints.ext (h : Ints H a l) (e : Ext H H1) : Ints H1 a l := h.imp id fun ⟨g, o, h1, h2⟩ => ⟨g, o, h1, row_ext' h2 e⟩
theorem own_Ints (h : Own H base 3 1 (.slice a n c) n (ints l)) : Ints H a l := by
  rcases own_blk2 h with ⟨h1, h2, _⟩ | ⟨g, ex, h1, h2, _⟩
  · have := h.len
    rw [h2] at this
    exact .inl (List.length_eq_zero_iff.1 (by simpa [ints] using this))
  · exact .inr ⟨g, 0, h1, h2.row.pre⟩
theorem Ints.at' (h : Ints H a l) : ∃ g o, 0 < l.length → a = some ⟨g, o, none⟩ ∧ Row H g o (ints l) := by
  rcases h with h0 | ⟨g, o, h1, h2⟩
  · exact ⟨0, 0, fun h => by rw [h0] at h; exact absurd h (by simp)⟩
  · exact ⟨g, o, fun _ => ⟨h1, h2⟩⟩
theorem ld_nth {g o k : Nat} (h : Row H g o (ints l)) (hk : k < l.length) : cellAt H g (o + k * 1) = some (.int .i64 (l.getD k 0)) := by
  rw [Nat.mul_one]
  exact h k _ (by simp [ints, List.getD, hk])
end
end Go.XG
