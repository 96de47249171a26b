/-
  Drafts, in plain Lean: what is added, copied, done.
-/
import Derived.Test.YtnbgdklgcoofkaaP
namespace Go.XG
def CopR (l : List (List Int)) (g : Int) (L : List (List Int)) (g' : Int) (I : List (List Int)) (e : Int) : Prop :=
  (e ≠ 0 ∧ L = l ∧ g' = g ∧ I.length ≤ 10) ∨ (e = 0 ∧ I.length ≤ 10 ∧ Goo L ∧ g ≤ g' ∧ g' ≤ 1099511627776 ∧ L.length ≤ l.length + 10 ∧ ∀ k : Nat, k < I.length → (gr I k).getD 0 0 = g + 1 + k)
def DoR (l : List (List Int)) (g k : Int) (L : List (List Int)) (g' : Int) (I : List (List Int)) (e : Int) : Prop :=
  (e ≠ 0 → L = l ∧ g' = g) ∧ Goo L ∧ g ≤ g' ∧ g' ≤ 1099511627776 ∧ L.length ≤ l.length + 10 ∧ (e = 0 → k = 1 ∨ k = 5 → ∀ j : Nat, j < I.length → (gr I j).getD 0 0 = g + 1 + j) ∧ I.length ≤ 10
def idsR (g : Int) (n : Nat) : List (List Int) := (List.range n).map fun (j : Nat) => [g + 1 + (j : Int)]
def copL (l : List (List Int)) (g : Int) (d : List Int) : Nat → List (List Int)
  | 0 => l
  | n + 1 => putR (copL l g d n) ([g + (n : Nat) + 1, 0, 0, 0] ++ setId (g + (n : Nat) + 1) d)
def CopX (l : List (List Int)) (g o p q : Int) (L : List (List Int)) (g' : Int) (I : List (List Int)) (e : Int) : Prop :=
  (hasK l [o, 0, 0, 0] = true ∧ (1 ≤ p ∧ p ≤ 10) ∧ (1 ≤ q ∧ q ≤ 1000) ∧ ((gr l (bel l [o, 0, 0, 0])).drop 4).getD 7 0 = -1 ∧ (l.length + p ≤ 64 ∧ g + 1 ≤ 1099511627776 - p)) →
    e = 0 ∧ I = idsR g p.toNat ∧ g' = g + p ∧ L = copL l g [((gr l (bel l [o, 0, 0, 0])).drop 4).getD 0 0, ((gr l (bel l [o, 0, 0, 0])).drop 4).getD 1 0, ((gr l (bel l [o, 0, 0, 0])).drop 4).getD 2 0, ((gr l (bel l [o, 0, 0, 0])).drop 4).getD 3 0, ((gr l (bel l [o, 0, 0, 0])).drop 4).getD 4 0, ((gr l (bel l [o, 0, 0, 0])).drop 4).getD 5 0, ((gr l (bel l [o, 0, 0, 0])).drop 4).getD 6 0, q, 0] p.toNat
theorem row1 {r s : List Int} (h : r.length = 1) (h' : s.length = 1) : r.getD 0 0 = s.getD 0 0 ↔ r = s := by
  match r, s, h, h' with
  | [a], [b], _, _ => simp
section
variable {l L I : List (List Int)} {g g' n e k o p q : Int} {d : List Int} {i : Nat} {E : List Int → Int} {F : List Int → List Int}
theorem ids_len : (idsR g i).length = i := by simp [idsR]
theorem ids_next : fr (idsR g (i + 1)) = fr (idsR g i) ++ [.int .i64 (g + 1 + i)] := by
  unfold idsR; rw [List.range_succ, List.map_append, fr_app]; rfl
theorem wide_ids : Wide 1 (idsR g i) := fun r hr => by
  obtain ⟨j, _, rfl⟩ := List.mem_map.1 hr; rfl
theorem gr_ids {j : Nat} (h : j < i) : (gr (idsR g i) j).getD 0 0 = g + 1 + j := by
  rw [gr_eq (by rw [ids_len]; exact h)]; simp [idsR]
theorem add_ok (h : AddR l g d L g' n e) (hi : IsD d) (h8 : d.getD 8 0 = 0) (h1 : l.length + 1 ≤ 64) (h2 : g + 1 ≤ 1099511627775) : e = 0 ∧ n = g + 1 ∧ g' = g + 1 ∧ L = putR l ([g + 1, 0, 0, 0] ++ setId (g + 1) d) := by
  rcases h with ⟨_, _, _, _, h3, h4, h5, h6⟩ | ⟨_, _, _, _, h3⟩ | ⟨_, _, _, _, h3⟩
  · exact ⟨h3, h4, h5, h6⟩
  · exact absurd ⟨hi, h8⟩ h3
  · exact absurd ⟨h1, h2⟩ h3
theorem add_do (hg : Goo l) (hl : d.length = 9) (h0 : g ≤ 1099511627776) (h : AddR l g d L g' n e) : DoR l g k L g' [[n]] e := by
  rcases h with ⟨h1, _, h3, h4, rfl, rfl, rfl, rfl⟩ | ⟨rfl, rfl, rfl, rfl, _⟩ | ⟨rfl, rfl, rfl, rfl, _⟩
  · obtain ⟨d0, d1, d2, d3, d4, d5, d6, d7, d8, rfl⟩ := nine hl
    exact ⟨fun h => absurd rfl h, hg.put (d := setId (g + 1) [d0, d1, d2, d3, d4, d5, d6, d7, d8]) rfl h1, by omega, by omega, Nat.le_trans (put_len _ _) (by omega), fun _ _ j hj => by
      have : j = 0 := by simpa using hj
      subst this; simp [gr], by simp⟩
  · exact ⟨fun _ => ⟨rfl, rfl⟩, hg, by omega, h0, by omega, fun h => absurd h (by decide), by simp⟩
  · exact ⟨fun _ => ⟨rfl, rfl⟩, hg, by omega, h0, by omega, fun h => absurd h (by decide), by simp⟩
theorem ch_do (hk : Keeps E F) (hg : Goo l) (h0 : g ≤ 1099511627776) (h1 : ¬ k = 1) (h5 : ¬ k = 5) (hI : I.length ≤ 10) : DoR l g k (chL E F l o) g I (chE E l o) := by
  obtain ⟨g1, g2, g3⟩ := goo_ch (o := o) hk hg
  exact ⟨fun h => ⟨g3 h, rfl⟩, g1, by omega, h0, by omega, fun _ h => by omega, hI⟩
theorem cop_do (hg : Goo l) (h0 : g ≤ 1099511627776) (h : CopR l g L g' I e) : DoR l g k L g' I e := by
  rcases h with ⟨h1, rfl, rfl, hI⟩ | ⟨rfl, hI, h1, h2, h3, h4, h5⟩
  · exact ⟨fun _ => ⟨rfl, rfl⟩, hg, by omega, h0, by omega, fun h => absurd h h1, hI⟩
  · exact ⟨fun h => absurd rfl h, h1, h2, h3, h4, fun _ _ => h5, hI⟩
theorem get_do (hg : Goo l) (h0 : g ≤ 1099511627776) (h1 : ¬ k = 1) (h5 : ¬ k = 5) (hI : I.length ≤ 10) : DoR l g k l g I e := ⟨fun _ => ⟨rfl, rfl⟩, hg, by omega, h0, by omega, fun _ h => by omega, hI⟩
theorem add_first (h : AddR [] 0 d L g' n e) : (IsD d ∧ d.getD 8 0 = 0 ∧ e = 0 ∧ n = 1 ∧ g' = 1 ∧ L = [[1, 0, 0, 0] ++ setId 1 d]) ∨ (e = 1 ∧ n = 0) := by
  rcases h with ⟨h1, h2, _, _, h3, h4, h5, h6⟩ | ⟨h1, h2, _, _, h3⟩ | ⟨_, _, _, _, h3⟩
  · exact .inl ⟨h1, h2, h3, by omega, by omega, h6⟩
  · exact .inr ⟨h1, h2⟩
  · exact absurd ⟨by decide, by decide⟩ h3
theorem one_has : hasK [[o, 0, 0, 0] ++ d] [o, 0, 0, 0] = true := by simp [hasK, ky]
theorem one_bel : bel [[o, 0, 0, 0] ++ d] [o, 0, 0, 0] = 0 := by
  unfold bel
  rw [List.length_eq_zero_iff, List.filter_eq_nil_iff]
  intro x hx
  rw [List.mem_singleton] at hx
  subst hx
  rw [ky_app rfl d, kcmp_self]; decide
theorem one_dr : (gr [[o, 0, 0, 0] ++ d] (bel [[o, 0, 0, 0] ++ d] [o, 0, 0, 0])).drop 4 = d := by rw [one_bel]; rfl
theorem one_put {d' : List Int} : putR [[o, 0, 0, 0] ++ d] ([o, 0, 0, 0] ++ d') = [[o, 0, 0, 0] ++ d'] := by
  unfold putR
  rw [ky_app rfl d', one_bel, one_has]; rfl
theorem one_E : chE E [[o, 0, 0, 0] ++ d] o = E d := by unfold chE; rw [if_pos one_has, one_dr]
theorem one_L (h : E d = 0) : chL E F [[o, 0, 0, 0] ++ d] o = [[o, 0, 0, 0] ++ F d] := by
  unfold chL; rw [if_pos (by rw [one_E]; exact h), one_dr, one_put]
theorem one_L' (h : ¬ E d = 0) : chL E F [[o, 0, 0, 0] ++ d] o = [[o, 0, 0, 0] ++ d] := if_neg (by rw [one_E]; exact h)
theorem goo_one (hl : d.length = 9) (hi : IsD d) : Goo [[o, 0, 0, 0] ++ d] := by
  have := goo_nil.put (o := o) hl hi
  exact this
end
end Go.XG
