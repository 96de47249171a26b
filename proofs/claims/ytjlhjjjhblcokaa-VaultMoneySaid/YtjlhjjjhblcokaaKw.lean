/-
  What is paid out never fails; a list of payments in and out.
-/
import Derived.Test.YtjlhjjjhblcokaaKv
namespace Go.XG.Pu
section
variable {x y P : List (List Int)} {f i n o p m : Int} {j : Nat}
theorem mon_put_ne (hs : Srt (tb x)) (h : hasK (tb x) [p, 0, 0, 0] = true) (h' : hasK (tb x) [o, 0, 0, 0] = true) (hne : o ≠ p) : mon (putA x p m) o = mon x o := by
  obtain ⟨h1, h2⟩ := (has_at hs).1 h
  obtain ⟨h3, h4⟩ := (has_at hs).1 h'
  have e : bel (tb (putA x p m)) [o, 0, 0, 0] = bel (tb x) [o, 0, 0, 0] := by rw [bel_keys, keys_put hs h, ← bel_keys]
  have hb : bel (tb x) [o, 0, 0, 0] ≠ bel (tb x) [p, 0, 0, 0] := fun hb => hne (by rw [← h2, ← h4, hb])
  unfold mon
  rw [e, put_has2 h]
  generalize bel (tb x) [o, 0, 0, 0] = b at *
  generalize bel (tb x) [p, 0, 0, 0] = q at *
  have hg : gr (x.take q ++ [[p, m]] ++ x.drop (q + 1)) b = gr x b := by
    show (x.take q ++ [[p, m]] ++ x.drop (q + 1)).getD b [] = x.getD b []
    rw [List.getD_eq_getElem?_getD, List.getD_eq_getElem?_getD]
    congr 1
    rcases Nat.lt_or_ge b q with hlt | hge
    · rw [List.append_assoc, List.getElem?_append_left (by simp; omega), List.getElem?_take_of_lt hlt]
    · rw [List.getElem?_append_right (by simp; omega), List.getElem?_drop]
      congr 1
      simp; omega
  rw [hg]
theorem keys_move (hg : Goo x) : (moveX x f p n).map ow = x.map ow := by
  by_cases h0 : moveE x f p n = 0
  · have h12 : ¬ (hasK (tb x) [f, 0, 0, 0] = false ∨ hasK (tb x) [p, 0, 0, 0] = false) := fun h => by rw [(move_none h).1] at h0; exact absurd h0 (by decide)
    have h1 : hasK (tb x) [f, 0, 0, 0] = true := by cases hh : hasK (tb x) [f, 0, 0, 0]; exact absurd (.inl hh) h12; rfl
    have h2 : hasK (tb x) [p, 0, 0, 0] = true := by cases hh : hasK (tb x) [p, 0, 0, 0]; exact absurd (.inr hh) h12; rfl
    have h3 : takeE x f n = 0 := by rw [← move_E h1 h2]; exact h0
    obtain ⟨_, _, _, e⟩ := take_inv h3
    rw [(move_ok h1 h2 h3).2]
    obtain ⟨hgt, _, _⟩ := goo_take hg h3
    have e2 : (takeX x f n).map ow = x.map ow := by rw [e]; exact keys_put hg.srt h1
    rw [keys_put hgt.srt (by rw [has_same e2]; exact h2), e2]
  · rw [show moveX x f p n = x from if_neg h0]
theorem mon_move (hg : Goo x) (ho : hasK (tb x) [o, 0, 0, 0] = true) (hn : 0 ≤ n) : mon x o - n ≤ mon (moveX x o p n) o := by
  by_cases h0 : moveE x o p n = 0
  · have h12 : ¬ (hasK (tb x) [o, 0, 0, 0] = false ∨ hasK (tb x) [p, 0, 0, 0] = false) := fun h => by rw [(move_none h).1] at h0; exact absurd h0 (by decide)
    have h2 : hasK (tb x) [p, 0, 0, 0] = true := by cases hh : hasK (tb x) [p, 0, 0, 0]; exact absurd (.inr hh) h12; rfl
    have h3 : takeE x o n = 0 := by rw [← move_E ho h2]; exact h0
    obtain ⟨_, _, _, e⟩ := take_inv h3
    rw [(move_ok ho h2 h3).2]
    obtain ⟨hgt, _, _⟩ := goo_take hg h3
    have e2 : (takeX x o n).map ow = x.map ow := by rw [e]; exact keys_put hg.srt ho
    have e3 : mon (takeX x o n) o = mon x o - n := by rw [e]; exact mon_put_self hg.srt
    by_cases hp : o = p
    · subst hp; rw [mon_put_self hgt.srt]; omega
    · rw [mon_put_ne hgt.srt (by rw [has_same e2]; exact h2) (by rw [has_same e2]; exact ho) hp, e3]; exact Int.le_refl _
  · rw [show moveX x o p n = x from if_neg h0]; omega
theorem sumN_nn (ha : PoA x i P j) (hj : j ≤ P.length) : 0 ≤ sumN (P.take j) := by
  induction j with
  | zero => simp [sumN]
  | succ k ih =>
    have h1 := ih (fun q hq => ha q (by omega)) (by omega)
    have h2 := (ha k (by omega)).2.1
    rw [sumN_take (by omega)]; omega
theorem poS_inv (hg : Goo x) (hc : PoC x i P) : ∀ j, j ≤ P.length → (poS x (owN 2 i) P j).map ow = x.map ow ∧ (hasK (tb x) [owN 2 i, 0, 0, 0] = true → poL x i P j ≤ mon (poS x (owN 2 i) P j) (owN 2 i))
  | 0, _ => ⟨rfl, fun h => by rw [poL_zero, monV_has hc.1 h]; exact Int.le_refl _⟩
  | j + 1, hj => by
    obtain ⟨h1, h2⟩ := poS_inv hg hc j (by omega)
    have h3 := (hc.2.1 j (by omega)).2.1
    rw [poL_next (by omega)]
    by_cases h0 : 0 < (gr P j).getD 2 0
    · rw [poS_go h0]
      obtain ⟨hgj, _⟩ := goo_poS (o := owN 2 i) (P := P) hg j
      refine ⟨(keys_move hgj).trans h1, fun h => ?_⟩
      have h4 := mon_move (p := (gr P j).getD 1 0) hgj (o := owN 2 i) (by rw [has_same h1]; exact h) h3
      have h5 := h2 h
      omega
    · rw [poS_skip h0]
      exact ⟨h1, fun h => by have := h2 h; omega⟩
theorem po_move (hg : Goo x) (hc : PoC x i P) (hb : PoB x P P.length) (hj : j < P.length) (hn : 0 < (gr P j).getD 2 0) : moveE (poS x (owN 2 i) P j) (owN 2 i) ((gr P j).getD 1 0) ((gr P j).getD 2 0) = 0 := by
  obtain ⟨h1, h2⟩ := poS_inv hg hc j (by omega)
  have h3 := hc.2.1 j hj
  have h4 := sumN_nn (fun q hq => hc.2.1 q (by omega) : PoA x i P j) (by omega)
  have ho : hasK (tb x) [owN 2 i, 0, 0, 0] = true := by
    cases hh : hasK (tb x) [owN 2 i, 0, 0, 0]
    · have h5 := monV_none (i := i) hh
      have h6 := h3.2.2
      unfold poL at h6
      omega
    · rfl
  have h5 := h2 ho
  have e1 : hasK (tb (poS x (owN 2 i) P j)) [owN 2 i, 0, 0, 0] = true := by rw [has_same h1]; exact ho
  have e2 : hasK (tb (poS x (owN 2 i) P j)) [(gr P j).getD 1 0, 0, 0, 0] = true := by rw [has_same h1]; exact hb j hj
  rw [move_E e1 e2]
  exact (take_ok e1 (by omega) (by omega)).1
end
/-- A payment in, or out. -/
structure PAct where
  out : Bool
  (f i n : Int)
  P : List (List Int)
  pa : Option Addr
  pc : Nat
instance : Inhabited PAct := ⟨⟨false, 0, 0, 0, [], none, 0⟩⟩
abbrev gP (A : List PAct) (i : Nat) : PAct := A.getD i default
def pcs (r : PAct) : List Value := [.bool r.out, .int .i64 r.f, .int .i64 r.i, .int .i64 r.n, .slice r.pa r.P.length r.pc]
def pstE (x : List (List Int)) (r : PAct) : Int := if r.out = true then poE x r.i r.P else payE x r.f r.i r.n
def pstX (x : List (List Int)) (r : PAct) : List (List Int) := if r.out = true then poX x r.i r.P else payX x r.f r.i r.n
def past (x : List (List Int)) (A : List PAct) : Nat → List (List Int)
  | 0 => x
  | i + 1 => pstX (past x A i) (gP A i)
section
variable {x : List (List Int)} {r : PAct} {A : List PAct} {i : Nat} {H H1 : Heap} {a : Option Addr} {b off : Nat}
theorem pst_t (h : r.out = true) : pstE x r = poE x r.i r.P ∧ pstX x r = poX x r.i r.P := ⟨if_pos h, if_pos h⟩
theorem pst_f (h : r.out = false) : pstE x r = payE x r.f r.i r.n ∧ pstX x r = payX x r.f r.i r.n := ⟨if_neg (by rw [h]; decide), if_neg (by rw [h]; decide)⟩
theorem goo_pst (h : Goo x) : Goo (pstX x r) ∧ (pstX x r).length ≤ x.length + 1 := by
  unfold pstX; split
  · obtain ⟨h1, h2⟩ := goo_po (i := r.i) (P := r.P) h
    exact ⟨h1, by omega⟩
  · exact goo_pay h
theorem goo_past (h : Goo x) : ∀ i, Goo (past x A i) ∧ (past x A i).length ≤ x.length + i
  | 0 => ⟨h, Nat.le_refl _⟩
  | i + 1 => by
    obtain ⟨h1, h2⟩ := goo_past h i
    obtain ⟨h3, h4⟩ := goo_pst (r := gP A i) h1
    exact ⟨h3, by simp only [past]; omega⟩
def PActsAt (H : Heap) (b off : Nat) (A : List PAct) : Prop := ∀ i, i < A.length → Row H b (off + i * 5) (pcs (gP A i)) ∧ Rows H (gP A i).pa 3 (gP A i).P
def PActs (H : Heap) (a : Option Addr) (A : List PAct) : Prop := A.length = 0 ∨ ∃ b off, a = some ⟨b, off, none⟩ ∧ PActsAt H b off A
theorem PActsAt.ext (h : PActsAt H b off A) (e : Ext H H1) : PActsAt H1 b off A := fun i hi => ⟨row_ext (h i hi).1 e, (h i hi).2.ext e⟩
theorem PActs.ext (h : PActs H a A) (e : Ext H H1) : PActs H1 a A := by
  rcases h with h | ⟨b, off, h1, h2⟩
  · exact .inl h
  · exact .inr ⟨b, off, h1, h2.ext e⟩
theorem PActs.at' (h : PActs H a A) : ∃ ba off, 0 < A.length → a = some ⟨ba, off, none⟩ ∧ PActsAt H ba off A := by
  rcases h with h0 | ⟨b, off, h1, h2⟩
  · exact ⟨0, 0, fun h => by omega⟩
  · exact ⟨b, off, fun _ => ⟨h1, h2⟩⟩
theorem ld_pact (h : PActsAt H b off A) (hi : i < A.length) : Ld H b (off + i * 5) true 5 (.agg (pcs (gP A i)).toArray) := ⟨pcs (gP A i), rfl, rfl, fun j v hj => (h i hi).1 j v hj⟩
theorem PActs.rows (h : PActs H a A) (hi : i < A.length) : Rows H (gP A i).pa 3 (gP A i).P := by
  rcases h with h0 | ⟨b, off, h1, h2⟩
  · omega
  · exact (h2 i hi).2
end
end Go.XG.Pu
