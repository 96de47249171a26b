/-
  Corporations, in plain Lean: lists of members; what is answered and what is left behind each call.
-/
import Derived.Test.YtbcbgjikgilpcaaGa
import Derived.Test.YtbcbgjikgilpcaaXi
namespace Go.XG
abbrev hasM (l : List (List Int)) (c : Int) : Bool := hasK (tb l) [c, 0, 0, 0]
abbrev posM (l : List (List Int)) (c : Int) : Nat := bel (tb l) [c, 0, 0, 0]
def isC (c : Int) : Prop := 1 ≤ c ∧ c ≤ 16
def isR (r : Int) : Prop := 0 ≤ r ∧ r < 256
instance (c : Int) : Decidable (isC c) := by unfold isC; infer_instance
instance (c : Int) : Decidable (isR c) := by unfold isR; infer_instance
/-- Members as they must be. -/
structure MOk (l : List (List Int)) : Prop where
  wide : Wide 2 l
  srt : Srt (tb l)
  ok : ∀ r ∈ l, isC (ow r) ∧ isR (mo r)
def ledR (l : List (List Int)) : Bool := l.any fun r => decide (mo r % 2 = 1)
def wo (l : List (List Int)) (c : Int) : List (List Int) := if hasM l c = true then l.take (posM l c) ++ l.drop (posM l c + 1) else l
section
variable {l : List (List Int)} {c r : Int} {i : Nat}
theorem mok_nil : MOk [] := ⟨fun _ h => (by cases h), srt_nil, fun _ h => (by cases h)⟩
theorem mok_len (h : MOk l) : l.length ≤ 16 := by
  have key : ∀ i, i < l.length → (i : Int) + 1 ≤ ow (gr l i) := by
    intro i
    induction i with
    | zero => intro hi; have := (h.ok _ (gr_mem hi)).1.1; omega
    | succ i ih =>
      intro hi
      have h1 := ih (by omega)
      have h2 := asc h.srt (show i < i + 1 by omega) hi
      omega
  rcases Nat.lt_or_ge 16 l.length with h1 | h1
  · have h2 := key 16 h1
    have h3 := (h.ok _ (gr_mem h1)).1.2
    omega
  · exact h1
theorem mok_put (h : MOk l) (hc : isC c) (hr : isR r) : MOk (putA l c r) := by
  refine ⟨wide_putA h.wide, srt_putA h.srt, fun x hx => ?_⟩
  unfold putA at hx
  rcases List.mem_append.1 hx with hx | hx
  · rcases List.mem_append.1 hx with hx | hx
    · exact h.ok x (List.mem_of_mem_take hx)
    · rw [List.mem_singleton] at hx; rw [hx]; exact ⟨hc, hr⟩
  · exact h.ok x (List.mem_of_mem_drop hx)
theorem tb_map (f : List Int → Bool) (l : List (List Int)) : tb (l.filter f) = (l.filter f).map tb1 := rfl
theorem tb_del (l : List (List Int)) (i : Nat) : tb (l.take i ++ l.drop (i + 1)) = (tb l).take i ++ (tb l).drop (i + 1) := by
  unfold tb; rw [List.map_append, List.map_take, List.map_drop]
theorem mok_wo (h : MOk l) : MOk (wo l c) := by
  unfold wo
  split
  · rename_i hh
    refine ⟨h.wide.take.app h.wide.drop, ?_, fun x hx => ?_⟩
    · rw [tb_del]
      have := srt_del (k := [c, 0, 0, 0]) h.srt
      unfold delR at this
      rw [if_pos hh] at this; exact this
    · rcases List.mem_append.1 hx with hx | hx
      · exact h.ok x (List.mem_of_mem_take hx)
      · exact h.ok x (List.mem_of_mem_drop hx)
  · exact h
theorem pos_le (l : List (List Int)) (c : Int) : posM l c ≤ l.length := by have := bel_le (tb l) [c, 0, 0, 0]; rwa [tb_len] at this
theorem below_pos (hs : Srt (tb l)) (hi : i < posM l c) : ow (gr l i) < c := by
  have hp := pos_le l c
  have := (bel_iff hs wide_tb (by decide) rfl i (by rw [tb_len]; omega)).2 hi
  rwa [ky_tb (by omega), kc_lt] at this
theorem above_pos (hs : Srt (tb l)) (hi : posM l c ≤ i) (hl : i < l.length) : c ≤ ow (gr l i) := by
  have h1 : ¬ kcmp (ky (gr (tb l) i)) [c, 0, 0, 0] < 0 := fun h => by
    have h5 : i < posM l c := (bel_iff hs wide_tb (by decide) rfl i (by rw [tb_len]; omega)).1 h
    omega
  rw [ky_tb hl, kc_lt] at h1; omega
theorem at_pos (hs : Srt (tb l)) (hh : hasM l c = true) : posM l c < l.length ∧ ow (gr l (posM l c)) = c := (has_at hs).1 hh
theorem not_at (hs : Srt (tb l)) (hh : hasM l c = false) (hi : i < l.length) : ow (gr l i) ≠ c := fun h => by
  have hb : posM l c = i := bel_at hs (by omega) (fun j hj => by have := asc hs hj hi; omega) (fun _ => by omega)
  have := (has_at (o := c) hs).2 (by unfold posM at hb; rw [hb]; exact ⟨hi, h⟩)
  have h2 : hasM l c = true := this
  rw [hh] at h2; cases h2
def neC (c : Int) (r : List Int) : Bool := decide (ow r ≠ c)
theorem wo_filter (h : MOk l) : l.filter (neC c) = wo l c := by
  have hp := pos_le l c
  have h1 : (l.take (posM l c)).filter (neC c) = l.take (posM l c) := by
    rw [List.filter_eq_self]; intro r hr
    obtain ⟨j, hj, rfl⟩ := List.getElem_of_mem hr
    rw [List.length_take] at hj
    have hj1 : j < posM l c := Nat.lt_of_lt_of_le hj (Nat.min_le_left _ _)
    have := below_pos h.srt hj1
    have hjl : j < l.length := by omega
    rw [gr_eq hjl] at this
    rw [List.getElem_take]; exact decide_eq_true (fun h => by rw [h] at this; omega)
  conv => lhs; rw [← List.take_append_drop (posM l c) l]
  rw [List.filter_append, h1]
  unfold wo
  cases hh : hasM l c
  · rw [if_neg (by decide)]
    have h2 : (l.drop (posM l c)).filter (neC c) = l.drop (posM l c) := by
      rw [List.filter_eq_self]; intro r hr
      obtain ⟨j, hj, rfl⟩ := List.getElem_of_mem hr
      rw [List.length_drop] at hj
      have hjl : posM l c + j < l.length := by omega
      have := not_at h.srt hh hjl
      rw [gr_eq hjl] at this
      rw [List.getElem_drop]; exact decide_eq_true this
    rw [h2, List.take_append_drop]
  · rw [if_pos rfl]
    obtain ⟨h3, h4⟩ := at_pos h.srt hh
    congr 1
    rw [drop_gr h3, List.filter_cons, if_neg (by unfold neC; rw [h4]; simp)]
    rw [List.filter_eq_self]; intro r hr
    obtain ⟨j, hj, rfl⟩ := List.getElem_of_mem hr
    rw [List.length_drop] at hj
    have hjl : posM l c + 1 + j < l.length := by omega
    have := asc h.srt (show posM l c < posM l c + 1 + j by omega) hjl
    rw [h4, gr_eq hjl] at this
    rw [List.getElem_drop]; exact decide_eq_true (fun h => by rw [h] at this; omega)
theorem fil_y (hi : i < l.length) (h : ¬ ow (gr l i) = c) : (l.take (i + 1)).filter (neC c) = (l.take i).filter (neC c) ++ [gr l i] := by
  rw [take_gr hi, List.filter_append]
  have : neC c (gr l i) = true := decide_eq_true h
  rw [List.filter_cons, if_pos this]; rfl
theorem fil_n (hi : i < l.length) (h : ow (gr l i) = c) : (l.take (i + 1)).filter (neC c) = (l.take i).filter (neC c) := by
  rw [take_gr hi, List.filter_append]
  have : ¬ neC c (gr l i) = true := fun h2 => (of_decide_eq_true h2) h
  rw [List.filter_cons, if_neg this]; simp
theorem wo_no (h : MOk l) : hasM (wo l c) c = false := by
  rw [← wo_filter h]
  cases hh : hasM (l.filter (neC c)) c
  · rfl
  · have hs : Srt (tb (l.filter (neC c))) := by rw [wo_filter h]; exact (mok_wo h).srt
    obtain ⟨h1, h2⟩ := at_pos hs hh
    have h5 := (List.mem_filter.1 (gr_mem h1)).2
    exact absurd h2 (of_decide_eq_true h5)
theorem pos_wo (h : MOk l) : posM (wo l c) c = posM l c := by
  have hp := pos_le l c
  unfold wo
  split
  · rename_i hh
    obtain ⟨h3, h4⟩ := at_pos h.srt hh
    have hw := (mok_wo (c := c) h).srt
    unfold wo at hw; rw [if_pos hh] at hw
    have hl : (l.take (posM l c)).length = posM l c := by simp; omega
    refine bel_at hw (by simp; omega) (fun j hj => ?_) (fun hlt => ?_)
    · rw [gr_eq (by simp; omega), List.getElem_append_left (by omega), List.getElem_take]
      have := below_pos h.srt hj; rwa [gr_eq (by omega)] at this
    · have hlt2 : posM l c + 1 < l.length := by simp at hlt; omega
      rw [gr_eq hlt, List.getElem_append_right (by omega), List.getElem_drop]
      have := asc h.srt (show posM l c < posM l c + 1 by omega) hlt2
      rw [h4, gr_eq hlt2] at this
      simp only [hl, Nat.sub_self, Nat.add_zero]; omega
  · rfl
theorem put_wo (h : MOk l) : putA (wo l c) c r = putA l c r := by
  have hp := pos_le l c
  have e := pos_wo (c := c) h
  have e2 : hasK (tb (wo l c)) [c, 0, 0, 0] = false := wo_no h
  have e3 : bel (tb (wo l c)) [c, 0, 0, 0] = bel (tb l) [c, 0, 0, 0] := e
  rw [put_new2 e2, e3]
  unfold putA wo
  cases hh : hasM l c
  · rw [if_neg (by decide), if_neg (by show ¬ hasM l c = true; rw [hh]; decide), Nat.add_zero]
  · have hl : (l.take (posM l c)).length = posM l c := by simp; omega
    rw [if_pos rfl, if_pos hh]
    show (l.take (posM l c) ++ l.drop (posM l c + 1)).take (posM l c) ++ _ ++ (l.take (posM l c) ++ l.drop (posM l c + 1)).drop (posM l c) = _
    rw [List.take_append_of_le_length (by omega), List.take_take, Nat.min_self, List.drop_append_of_le_length (by omega)]
    simp
end
theorem and1i {r : Int} (h0 : 0 ≤ r) (h : r < 9223372036854775808) : bits2 .and .i64 r 1 = r % 2 := by
  show IntKind.i64.wrap ((BitVec.ofInt 64 r &&& BitVec.ofInt 64 1).toNat : Int) = _
  rw [BitVec.toNat_and, ofInt_toNat 64 r h0 (by omega), ofInt_toNat 64 1 (by decide) (by decide)]
  have e : r.toNat &&& (1 : Int).toNat = r.toNat % 2 := Nat.and_one_is_mod _
  rw [e, IntKind.wrap_i64]
  omega
section
variable {l : List (List Int)} {i : Nat}
theorem led_true (hi : i < l.length) (h : mo (gr l i) % 2 = 1) : ledR l = true := by
  unfold ledR; rw [List.any_eq_true]; exact ⟨_, gr_mem hi, decide_eq_true h⟩
theorem led_ex (h : ledR l = true) : ∃ j, j < l.length ∧ mo (gr l j) % 2 = 1 := by
  unfold ledR at h; rw [List.any_eq_true] at h
  obtain ⟨r, hr, h2⟩ := h
  obtain ⟨j, hj, rfl⟩ := List.getElem_of_mem hr
  exact ⟨j, hj, by rw [gr_eq hj]; exact of_decide_eq_true h2⟩
theorem led_false (h : ∀ j, j < l.length → ¬ mo (gr l j) % 2 = 1) : ledR l = false := by
  cases hh : ledR l
  · rfl
  · unfold ledR at hh; rw [List.any_eq_true] at hh
    obtain ⟨r, hr, h2⟩ := hh
    obtain ⟨j, hj, rfl⟩ := List.getElem_of_mem hr
    have := h j hj
    rw [gr_eq hj] at this
    exact absurd (of_decide_eq_true h2) this
/-- What the document calls led. -/
def ledD (l : List (List Int)) : Bool := l.any fun r => decide (isR (mo r) ∧ mo r % 2 = 1)
theorem ledD_true (hi : i < l.length) (h0 : isR (mo (gr l i))) (h : mo (gr l i) % 2 = 1) : ledD l = true := by
  unfold ledD; rw [List.any_eq_true]; exact ⟨_, gr_mem hi, decide_eq_true ⟨h0, h⟩⟩
theorem ledD_false (h : ∀ j, j < l.length → ¬ (isR (mo (gr l j)) ∧ mo (gr l j) % 2 = 1)) : ledD l = false := by
  cases hh : ledD l
  · rfl
  · unfold ledD at hh; rw [List.any_eq_true] at hh
    obtain ⟨r, hr, h2⟩ := hh
    obtain ⟨j, hj, rfl⟩ := List.getElem_of_mem hr
    have := h j hj
    rw [gr_eq hj] at this
    exact absurd (of_decide_eq_true h2) this
theorem led_same (h : ∀ r ∈ l, isR (mo r)) : ledD l = ledR l := by
  induction l with
  | nil => rfl
  | cons r l ih =>
    have h1 := h r (by simp)
    have h2 := ih (fun x hx => h x (by simp [hx]))
    simp only [ledD, ledR, List.any_cons] at h2 ⊢
    rw [h2]
    congr 1
    exact decide_eq_decide.2 ⟨fun h => h.2, fun h => ⟨h1, h⟩⟩
theorem tmod2 {x : Int} (h : isR x) : x.tmod 2 = x % 2 := Int.tmod_eq_emod_of_nonneg h.1
/-- What the document's 'with' has made of the first members. -/
def WithI (l : List (List Int)) (c r : Int) (i : Nat) (dn : Bool) (out : List (List Int)) : Prop :=
  (dn = false ∧ i ≤ posM l c ∧ out = l.take i) ∨ (dn = true ∧ posM l c ≤ i ∧ out = l.take (posM l c) ++ [[c, r]] ++ (l.take i).drop (posM l c))
variable {c r : Int} {dn : Bool} {out : List (List Int)}
theorem with_start : WithI l c r 0 false [] := .inl ⟨rfl, Nat.zero_le _, by simp⟩
theorem pos_eq (hs : Srt (tb l)) (_ : hasM l c = false) (_ : i < l.length) (h1 : i ≤ posM l c) (h : c < ow (gr l i)) : posM l c = i := by
  rcases Nat.lt_or_ge i (posM l c) with h2 | h2
  · have := below_pos hs h2; omega
  · omega
theorem WithI.ins (h : WithI l c r i dn out) (hs : Srt (tb l)) (hh : hasM l c = false) (hi : i < l.length) (hd : dn = false) (hc : c < ow (gr l i)) : WithI l c r i true (out ++ [[c, r]]) := by
  rcases h with ⟨_, h1, h2⟩ | ⟨h0, _⟩
  · have e := pos_eq hs hh hi h1 hc
    refine .inr ⟨rfl, by omega, ?_⟩
    rw [h2, e]; simp
  · rw [hd] at h0; cases h0
theorem WithI.row (h : WithI l c r i dn out) (hs : Srt (tb l)) (hh : hasM l c = false) (hi : i < l.length) (hc : dn = false → ¬ c < ow (gr l i)) : WithI l c r (i + 1) dn (out ++ [gr l i]) := by
  have hp := pos_le l c
  rcases h with ⟨h0, h1, h2⟩ | ⟨h0, h1, h2⟩
  · refine .inl ⟨h0, ?_, by rw [h2, take_gr hi]⟩
    have h3 := hc h0
    have h4 := not_at hs hh hi
    rcases Nat.lt_or_ge i (posM l c) with h5 | h5
    · omega
    · have := above_pos hs h5 hi; omega
  · refine .inr ⟨h0, by omega, ?_⟩
    rw [h2, take_gr hi, List.drop_append_of_le_length (by rw [List.length_take]; omega)]
    simp only [List.append_assoc]
theorem WithI.len (h : WithI l c r i dn out) (hi : i ≤ l.length) : out.length ≤ i + 1 := by
  rcases h with ⟨_, _, h2⟩ | ⟨_, h1, h2⟩
  · rw [h2, List.length_take]; omega
  · rw [h2]; simp only [List.length_append, List.length_drop, List.length_take, List.length_singleton]; omega
theorem WithI.wide (h : WithI l c r i dn out) (hw : Wide 2 l) : Wide 2 out := by
  rcases h with ⟨_, _, h2⟩ | ⟨_, _, h2⟩
  · rw [h2]; exact hw.take
  · rw [h2]; exact (hw.take.app (fun x hx => by rw [List.mem_singleton] at hx; rw [hx]; rfl)).app hw.take.drop
theorem WithI.done (h : WithI l c r l.length dn out) (hh : hasM l c = false) : (if dn = false then out ++ [[c, r]] else out) = putA l c r := by
  have hp := pos_le l c
  rcases h with ⟨h0, h1, h2⟩ | ⟨h0, h1, h2⟩
  · rw [if_pos h0, h2, put_new2 hh]
    have e : bel (tb l) [c, 0, 0, 0] = l.length := by have : posM l c = l.length := by omega
                                                      exact this
    rw [e]; simp
  · rw [if_neg (by rw [h0]; decide), h2, put_new2 hh, List.take_length]
end
/-! Corporations. -/
abbrev gM (X : List (List (List Int))) (k : Nat) : List (List Int) := X.getD k []
structure GOk (X : List (List (List Int))) : Prop where
  len : X.length ≤ 4
  ok : ∀ l ∈ X, MOk l ∧ ledR l = true
def inG (X : List (List (List Int))) (id : Int) : Prop := 101 ≤ id ∧ id < 101 + (X.length : Int)
instance (X : List (List (List Int))) (id : Int) : Decidable (inG X id) := by unfold inG; infer_instance
def ix (id : Int) : Nat := (id - 101).toNat
def setE (l : List (List Int)) : Int := if ledR l = true then 0 else 9
def fouE (X : List (List (List Int))) (c : Int) : Int := if ¬ isC c then 1 else if 4 ≤ X.length then 4 else 0
def fouN (X : List (List (List Int))) (c : Int) : Int := if fouE X c = 0 then 101 + (X.length : Int) else 0
def fouX (X : List (List (List Int))) (c : Int) : List (List (List Int)) := if fouE X c = 0 then X ++ [[[c, 1]]] else X
def enrL (X : List (List (List Int))) (id c r : Int) : List (List Int) := putA (gM X (ix id)) c r
def enrE (X : List (List (List Int))) (id c r : Int) : Int := if ¬ inG X id then 3 else if ¬ (isC c ∧ isR r) then 1 else setE (enrL X id c r)
def enrX (X : List (List (List Int))) (id c r : Int) : List (List (List Int)) := if enrE X id c r = 0 then X.set (ix id) (enrL X id c r) else X
def rolE (X : List (List (List Int))) (id c : Int) : Int := if ¬ inG X id then 3 else if hasM (gM X (ix id)) c = true then 0 else 3
def rolN (X : List (List (List Int))) (id c : Int) : Int := if rolE X id c = 0 then mon (gM X (ix id)) c else 0
def expL (X : List (List (List Int))) (id c : Int) : List (List Int) := wo (gM X (ix id)) c
def expE (X : List (List (List Int))) (id c : Int) : Int := if rolE X id c ≠ 0 then rolE X id c else setE (expL X id c)
def expX (X : List (List (List Int))) (id c : Int) : List (List (List Int)) := if expE X id c = 0 then X.set (ix id) (expL X id c) else X
section
variable {X : List (List (List Int))} {id c r : Int} {k : Nat} {l : List (List Int)}
theorem gM_mem (h : k < X.length) : gM X k ∈ X := by
  have : gM X k = X[k] := by simp [gM, h]
  rw [this]; exact List.getElem_mem _
theorem GOk.at (h : GOk X) (hk : k < X.length) : MOk (gM X k) ∧ ledR (gM X k) = true := h.ok _ (gM_mem hk)
theorem GOk.set (h : GOk X) (hl : MOk l) (hd : ledR l = true) : GOk (X.set k l) := by
  refine ⟨by rw [List.length_set]; exact h.len, fun x hx => ?_⟩
  rcases List.mem_or_eq_of_mem_set hx with hx | hx
  · exact h.ok x hx
  · rw [hx]; exact ⟨hl, hd⟩
theorem inG_ix (h : inG X id) : ix id < X.length ∧ ((ix id : Nat) : Int) = id - 101 := by unfold inG at h; unfold ix; omega
theorem set_led (h : setE l = 0) : ledR l = true := by
  unfold setE at h; split at h
  · rename_i h1; exact h1
  · cases h
theorem gok_nil : GOk [] := ⟨by decide, fun _ h => by cases h⟩
theorem gok_fou (h : GOk X) : GOk (fouX X c) := by
  unfold fouX; split
  · rename_i h0
    unfold fouE at h0
    split at h0
    · cases h0
    · rename_i hc
      have hc := Classical.not_not.1 hc
      split at h0
      · cases h0
      · refine ⟨by rw [List.length_append, List.length_singleton]; omega, fun l hl => ?_⟩
        rcases List.mem_append.1 hl with hl | hl
        · exact h.ok l hl
        · rw [List.mem_singleton] at hl; subst hl
          refine ⟨⟨fun r hr => ?_, by simp [tb, Srt], fun r hr => ?_⟩, by simp [ledR, mo]⟩
          · rw [List.mem_singleton] at hr; rw [hr]; rfl
          · rw [List.mem_singleton] at hr; rw [hr]; exact ⟨hc, show (0 : Int) ≤ 1 by decide, show (1 : Int) < 256 by decide⟩
  · exact h
theorem gok_enr (h : GOk X) : GOk (enrX X id c r) := by
  unfold enrX; split
  · rename_i h0
    unfold enrE at h0
    split at h0
    · cases h0
    · rename_i hi
      have hi := inG_ix (Classical.not_not.1 hi)
      split at h0
      · cases h0
      · rename_i hc
        have hc := Classical.not_not.1 hc
        exact h.set (mok_put (h.at hi.1).1 hc.1 hc.2) (set_led h0)
  · exact h
theorem gok_exp (h : GOk X) : GOk (expX X id c) := by
  unfold expX; split
  · rename_i h0
    unfold expE at h0
    split at h0
    · rename_i h1; exact absurd h0 h1
    · rename_i h1
      have h1 := Classical.not_not.1 h1
      unfold rolE at h1
      split at h1
      · cases h1
      · rename_i hi
        exact h.set (mok_wo (h.at (inG_ix (Classical.not_not.1 hi)).1).1) (set_led h0)
  · exact h
end
section
variable {X : List (List (List Int))} {id c r : Int} {k : Nat} {l : List (List Int)}
theorem has_isC (h : MOk l) (hh : hasM l c = true) : isC c := by
  obtain ⟨h1, h2⟩ := at_pos h.srt hh
  have := (h.ok _ (gr_mem h1)).1
  rwa [h2] at this
theorem rol_no (h : ¬ inG X id) : rolE X id c = 3 ∧ rolN X id c = 0 := by
  have e : rolE X id c = 3 := if_pos h
  unfold rolN; rw [e]; exact ⟨rfl, if_neg (by decide)⟩
theorem rol_absent (h : inG X id) (hh : hasM (gM X (ix id)) c = false) : rolE X id c = 3 ∧ rolN X id c = 0 := by
  have e : rolE X id c = 3 := (if_neg (fun h2 => h2 h)).trans (if_neg (by rw [hh]; decide))
  unfold rolN; rw [e]; exact ⟨rfl, if_neg (by decide)⟩
theorem rol_notC (hG : GOk X) (h : inG X id) (hc : ¬ isC c) : rolE X id c = 3 ∧ rolN X id c = 0 := by
  refine rol_absent h ?_
  cases hh : hasM (gM X (ix id)) c
  · rfl
  · exact absurd (has_isC (hG.at (inG_ix h).1).1 hh) hc
theorem rol_yes (h : inG X id) (hh : hasM (gM X (ix id)) c = true) : rolE X id c = 0 ∧ rolN X id c = mon (gM X (ix id)) c := by
  have e : rolE X id c = 0 := (if_neg (fun h2 => h2 h)).trans (if_pos hh)
  unfold rolN; rw [e]; exact ⟨rfl, if_pos rfl⟩
theorem rol_inv (h : rolE X id c = 0) : inG X id ∧ hasM (gM X (ix id)) c = true := by
  by_cases h1 : inG X id
  · cases hh : hasM (gM X (ix id)) c
    · rw [(rol_absent h1 hh).1] at h; cases h
    · exact ⟨h1, rfl⟩
  · rw [(rol_no h1).1] at h; cases h
theorem rol_isR (hG : GOk X) (h : rolE X id c = 0) : isR (rolN X id c) := by
  obtain ⟨h1, h2⟩ := rol_inv h
  rw [(rol_yes h1 h2).2]
  have h3 := (hG.at (inG_ix h1).1).1
  exact (h3.ok _ (gr_mem (at_pos h3.srt h2).1)).2
theorem has_found (hm : MOk l) {j : Nat} (hj : j < l.length) (h : ow (gr l j) = c) : hasM l c = true ∧ posM l c = j := by
  have hp : posM l c = j := bel_at hm.srt (by omega) (fun i hi => by have := asc hm.srt hi hj; omega) (fun _ => by omega)
  refine ⟨(has_at hm.srt).2 ?_, hp⟩
  have h2 : bel (tb l) [c, 0, 0, 0] = j := hp
  rw [h2]; exact ⟨hj, h⟩
theorem has_none (hm : MOk l) {ch : Int} (h : ∀ i, i < l.length → ow (gr l i) ≠ ch) : hasM l ch = false := by
  cases hh : hasM l ch
  · rfl
  · obtain ⟨h1, h2⟩ := at_pos hm.srt hh
    exact absurd h2 (h _ h1)
theorem enr_no (h : ¬ inG X id) : enrE X id c r = 3 ∧ enrX X id c r = X := by
  have e : enrE X id c r = 3 := if_pos h
  unfold enrX; rw [e]; exact ⟨rfl, if_neg (by decide)⟩
theorem enr_arg (h : inG X id) (h1 : ¬ (isC c ∧ isR r)) : enrE X id c r = 1 ∧ enrX X id c r = X := by
  have e : enrE X id c r = 1 := (if_neg (fun h2 => h2 h)).trans (if_pos h1)
  unfold enrX; rw [e]; exact ⟨rfl, if_neg (by decide)⟩
theorem enr_set (h : inG X id) (h1 : isC c ∧ isR r) : enrE X id c r = setE (enrL X id c r) ∧ enrX X id c r = if setE (enrL X id c r) = 0 then X.set (ix id) (enrL X id c r) else X := by
  have e : enrE X id c r = setE (enrL X id c r) := (if_neg (fun h2 => h2 h)).trans (if_neg (fun h2 => h2 h1))
  unfold enrX; rw [e]; exact ⟨rfl, rfl⟩
theorem exp_no (h : rolE X id c ≠ 0) : expE X id c = rolE X id c ∧ expX X id c = X := by
  have e : expE X id c = rolE X id c := if_pos h
  unfold expX; rw [e]; exact ⟨rfl, if_neg h⟩
theorem exp_set (h : rolE X id c = 0) : expE X id c = setE (expL X id c) ∧ expX X id c = if setE (expL X id c) = 0 then X.set (ix id) (expL X id c) else X := by
  have e : expE X id c = setE (expL X id c) := if_neg (fun h2 => h2 h)
  unfold expX; rw [e]; exact ⟨rfl, rfl⟩
theorem fou_arg (h : ¬ isC c) : fouE X c = 1 ∧ fouN X c = 0 ∧ fouX X c = X := by
  have e : fouE X c = 1 := if_pos h
  unfold fouN fouX; rw [e]; exact ⟨rfl, if_neg (by decide), if_neg (by decide)⟩
theorem fou_full (h : isC c) (h1 : 4 ≤ X.length) : fouE X c = 4 ∧ fouN X c = 0 ∧ fouX X c = X := by
  have e : fouE X c = 4 := (if_neg (fun h2 => h2 h)).trans (if_pos h1)
  unfold fouN fouX; rw [e]; exact ⟨rfl, if_neg (by decide), if_neg (by decide)⟩
theorem fou_ok (h : isC c) (h1 : ¬ 4 ≤ X.length) : fouE X c = 0 ∧ fouN X c = 101 + (X.length : Int) ∧ fouX X c = X ++ [[[c, 1]]] := by
  have e : fouE X c = 0 := (if_neg (fun h2 => h2 h)).trans (if_neg h1)
  unfold fouN fouX; rw [e]; exact ⟨rfl, if_pos rfl, if_pos rfl⟩
theorem len_enr : (enrX X id c r).length = X.length := by unfold enrX; split; exact List.length_set; rfl
theorem len_exp : (expX X id c).length = X.length := by unfold expX; split; exact List.length_set; rfl
theorem putA_at (hh : hasM l c = true) : putA l c r = l.take (posM l c) ++ [[c, r]] ++ l.drop (posM l c + 1) := put_has2 hh
theorem putA_in (hh : hasM l c = false) : putA l c r = l.take (posM l c) ++ [[c, r]] ++ l.drop (posM l c) := put_new2 hh
theorem wo_at (hh : hasM l c = true) : wo l c = l.take (posM l c) ++ l.drop (posM l c + 1) := if_pos hh
/-- The corporations of which one is a member. -/
def ofI (X : List (List (List Int))) (c : Int) : Nat → List Int
  | 0 => []
  | k + 1 => ofI X c k ++ if rolE X (101 + (k : Int)) c = 0 then [101 + (k : Int)] else []
theorem ofI_len (X : List (List (List Int))) (c : Int) : ∀ k, (ofI X c k).length ≤ k
  | 0 => Nat.le_refl _
  | k + 1 => by
    have := ofI_len X c k
    simp only [ofI, List.length_append]
    split <;> simp <;> omega
theorem ofI_yes (h : rolE X (101 + (k : Int)) c = 0) : ofI X c (k + 1) = ofI X c k ++ [101 + (k : Int)] := by
  show ofI X c k ++ _ = _; rw [if_pos h]
theorem ofI_not (h : ¬ rolE X (101 + (k : Int)) c = 0) : ofI X c (k + 1) = ofI X c k := by
  show ofI X c k ++ _ = _; rw [if_neg h, List.append_nil]
end
/-! Acts: rows of kind, corporation, character, roles. -/
def actE (X : List (List (List Int))) (r : List Int) : Int := if r.getD 0 0 = 1 then fouE X (r.getD 2 0) else if r.getD 0 0 = 2 then enrE X (r.getD 1 0) (r.getD 2 0) (r.getD 3 0) else if r.getD 0 0 = 3 then expE X (r.getD 1 0) (r.getD 2 0) else rolE X (r.getD 1 0) (r.getD 2 0)
def actN (X : List (List (List Int))) (r : List Int) : Int := if r.getD 0 0 = 1 then fouN X (r.getD 2 0) else if r.getD 0 0 = 2 then 0 else if r.getD 0 0 = 3 then 0 else rolN X (r.getD 1 0) (r.getD 2 0)
def actX (X : List (List (List Int))) (r : List Int) : List (List (List Int)) := if r.getD 0 0 = 1 then fouX X (r.getD 2 0) else if r.getD 0 0 = 2 then enrX X (r.getD 1 0) (r.getD 2 0) (r.getD 3 0) else if r.getD 0 0 = 3 then expX X (r.getD 1 0) (r.getD 2 0) else X
section
variable {X : List (List (List Int))} {r : List Int}
theorem act1 (h : r.getD 0 0 = 1) : actE X r = fouE X (r.getD 2 0) ∧ actN X r = fouN X (r.getD 2 0) ∧ actX X r = fouX X (r.getD 2 0) := ⟨if_pos h, if_pos h, if_pos h⟩
theorem act2 (h1 : ¬ r.getD 0 0 = 1) (h : r.getD 0 0 = 2) : actE X r = enrE X (r.getD 1 0) (r.getD 2 0) (r.getD 3 0) ∧ actN X r = 0 ∧ actX X r = enrX X (r.getD 1 0) (r.getD 2 0) (r.getD 3 0) :=
  ⟨(if_neg h1).trans (if_pos h), (if_neg h1).trans (if_pos h), (if_neg h1).trans (if_pos h)⟩
theorem act3 (h1 : ¬ r.getD 0 0 = 1) (h2 : ¬ r.getD 0 0 = 2) (h : r.getD 0 0 = 3) : actE X r = expE X (r.getD 1 0) (r.getD 2 0) ∧ actN X r = 0 ∧ actX X r = expX X (r.getD 1 0) (r.getD 2 0) :=
  ⟨(if_neg h1).trans ((if_neg h2).trans (if_pos h)), (if_neg h1).trans ((if_neg h2).trans (if_pos h)), (if_neg h1).trans ((if_neg h2).trans (if_pos h))⟩
theorem act4 (h1 : ¬ r.getD 0 0 = 1) (h2 : ¬ r.getD 0 0 = 2) (h : ¬ r.getD 0 0 = 3) : actE X r = rolE X (r.getD 1 0) (r.getD 2 0) ∧ actN X r = rolN X (r.getD 1 0) (r.getD 2 0) ∧ actX X r = X :=
  ⟨(if_neg h1).trans ((if_neg h2).trans (if_neg h)), (if_neg h1).trans ((if_neg h2).trans (if_neg h)), (if_neg h1).trans ((if_neg h2).trans (if_neg h))⟩
theorem gok_act (h : GOk X) : GOk (actX X r) := by
  by_cases h1 : r.getD 0 0 = 1
  · rw [(act1 h1).2.2]; exact gok_fou h
  by_cases h2 : r.getD 0 0 = 2
  · rw [(act2 h1 h2).2.2]; exact gok_enr h
  by_cases h3 : r.getD 0 0 = 3
  · rw [(act3 h1 h2 h3).2.2]; exact gok_exp h
  · rw [(act4 h1 h2 h3).2.2]; exact h
theorem act_stay (h : actE X r ≠ 0) : actX X r = X := by
  by_cases h1 : r.getD 0 0 = 1
  · rw [(act1 h1).1] at h; rw [(act1 h1).2.2]; exact if_neg h
  by_cases h2 : r.getD 0 0 = 2
  · rw [(act2 h1 h2).1] at h; rw [(act2 h1 h2).2.2]; exact if_neg h
  by_cases h3 : r.getD 0 0 = 3
  · rw [(act3 h1 h2 h3).1] at h; rw [(act3 h1 h2 h3).2.2]; exact if_neg h
  · exact (act4 h1 h2 h3).2.2
end
def ast (X : List (List (List Int))) (A : List (List Int)) : Nat → List (List (List Int))
  | 0 => X
  | i + 1 => actX (ast X A i) (gr A i)
theorem gok_ast {X : List (List (List Int))} {A : List (List Int)} (h : GOk X) : ∀ i : Nat, GOk (ast X A i)
  | 0 => h
  | i + 1 => gok_act (gok_ast h i)
/-- Corporations with their numbers. -/
def tgF : Int → List (List (List Int)) → List (Int × List (List Int))
  | _, [] => []
  | n, l :: X => (n, l) :: tgF (n + 1) X
abbrev tg (X : List (List (List Int))) : List (Int × List (List Int)) := tgF 101 X
abbrev gD (D : List (Int × List (List Int))) (i : Nat) : Int × List (List Int) := D.getD i (0, [])
section
variable {X : List (List (List Int))} {n : Int} {i : Nat}
theorem tgF_len : ∀ {X : List (List (List Int))} {n : Int}, (tgF n X).length = X.length
  | [], _ => rfl
  | _ :: X, n => by simp [tgF, tgF_len (X := X)]
theorem tgF_get : ∀ {X : List (List (List Int))} {n : Int} {i : Nat}, i < X.length → gD (tgF n X) i = (n + (i : Int), gM X i)
  | [], _, _, h => absurd h (by simp)
  | l :: X, n, 0, _ => by simp [tgF]
  | l :: X, n, i + 1, h => by
    have := tgF_get (X := X) (n := n + 1) (i := i) (by simpa using h)
    simp only [tgF, gD, gM, List.getD_cons_succ] at this ⊢
    rw [this]
    congr 1
    omega
theorem tg_len : (tg X).length = X.length := tgF_len
theorem tg_get (h : i < X.length) : gD (tg X) i = (101 + (i : Int), gM X i) := tgF_get h
theorem dext {D E : List (Int × List (List Int))} (hl : D.length = E.length) (h : ∀ i, i < D.length → gD D i = gD E i) : D = E := by
  apply List.ext_getElem hl
  intro i h1 h2
  have := h i h1
  simpa [gD, h1, h2] using this
theorem gext {X Y : List (List (List Int))} (hl : X.length = Y.length) (h : ∀ i, i < X.length → gM X i = gM Y i) : X = Y := by
  apply List.ext_getElem hl
  intro i h1 h2
  have := h i h1
  simpa [gM, h1, h2] using this
theorem tgF_set {l : List (List Int)} : ∀ {X : List (List (List Int))} {n : Int} {k : Nat}, k < X.length → tgF n (X.set k l) = (tgF n X).take k ++ [(n + (k : Int), l)] ++ (tgF n X).drop (k + 1)
  | [], _, _, h => absurd h (by simp)
  | x :: X, n, 0, _ => by simp [tgF]
  | x :: X, n, k + 1, h => by
    have := tgF_set (l := l) (X := X) (n := n + 1) (k := k) (by simpa using h)
    simp only [List.set_cons_succ, tgF, List.take_succ_cons, List.drop_succ_cons, List.cons_append, this]
    rw [show n + 1 + (k : Int) = n + ((k + 1 : Nat) : Int) by omega]
theorem tgF_app {l : List (List Int)} : ∀ {X : List (List (List Int))} {n : Int}, tgF n (X ++ [l]) = tgF n X ++ [(n + (X.length : Int), l)]
  | [], n => by simp [tgF]
  | x :: X, n => by
    have := tgF_app (l := l) (X := X) (n := n + 1)
    simp only [List.cons_append, tgF, this, List.length_cons]
    rw [show n + 1 + (X.length : Int) = n + ((X.length + 1 : Nat) : Int) by omega]
theorem iext {l m : List Int} (hl : l.length = m.length) (h : ∀ i, i < l.length → l.getD i 0 = m.getD i 0) : l = m := by
  apply List.ext_getElem hl
  intro i h1 h2
  have := h i h1
  simpa [h1, h2] using this
theorem tg_inj {Y : List (List (List Int))} (h : tg X = tg Y) : X = Y := by
  have hl : X.length = Y.length := by have := congrArg List.length h; rwa [tg_len, tg_len] at this
  refine gext hl fun i hi => ?_
  have h1 := tg_get hi
  rw [h, tg_get (by omega)] at h1
  exact (congrArg Prod.snd h1).symm
end
/-! Corporations that there were. -/
section
variable {l : List (List Int)} {i j : Nat}
theorem asc_srt (h : ∀ i, i + 1 < l.length → ow (gr l i) < ow (gr l (i + 1))) : Srt (tb l) := by
  induction l with
  | nil => exact srt_nil
  | cons r l ih =>
    have ih := ih (fun i hi => by have := h (i + 1) (by simpa using hi); simpa [gr] using this)
    have key : ∀ (l : List (List Int)) (r : List Int), (0 < l.length → ow r < ow (gr l 0)) → Srt (tb l) → ∀ x ∈ l, ow r < ow x := by
      intro l r h0 hs x hx
      obtain ⟨j, hj, rfl⟩ := List.getElem_of_mem hx
      have h1 := h0 (by omega)
      rcases Nat.eq_zero_or_pos j with hj0 | hj0
      · subst hj0; rwa [gr_eq hj] at h1
      · have := asc hs hj0 hj
        rw [gr_eq hj] at this; omega
    have h2 := key l r (fun hl => by have := h 0 (by simp; omega); simpa [gr] using this) ih
    unfold Srt tb
    rw [List.map_cons, List.pairwise_cons]
    refine ⟨fun y hy => ?_, ih⟩
    obtain ⟨x, hx, rfl⟩ := List.mem_map.1 hy
    exact (kc_lt _ _).2 (h2 x hx)
/-- The first members are as they must be. -/
def MP (l : List (List Int)) (j : Nat) : Prop := ∀ i, i < j → (isC (ow (gr l i)) ∧ isR (mo (gr l i))) ∧ (0 < i → ow (gr l (i - 1)) < ow (gr l i))
theorem mp_ok (hw : Wide 2 l) (h : MP l l.length) : MOk l := ⟨hw, asc_srt (fun i hi => (h (i + 1) hi).2 (by omega)), fun r hr => by
  obtain ⟨j, hj, rfl⟩ := List.getElem_of_mem hr
  have := (h j hj).1
  rwa [gr_eq hj] at this⟩
theorem mok_mp (h : MOk l) : MP l l.length := fun i hi => ⟨h.ok _ (gr_mem hi), fun h0 => asc h.srt (by omega) hi⟩
def OkG (D : List (Int × List (List Int))) (k : Nat) : Prop := (gD D k).1 = 101 + (k : Int) ∧ MOk (gD D k).2 ∧ ledR (gD D k).2 = true
def AllG (D : List (Int × List (List Int))) : Prop := D.length ≤ 4 ∧ ∀ k, k < D.length → OkG D k
def LdG (D : List (Int × List (List Int))) (e : Int) : Prop := (e = 0 ∧ AllG D) ∨ (e = 1 ∧ ¬ AllG D)
abbrev mX (D : List (Int × List (List Int))) : List (List (List Int)) := D.map Prod.snd
variable {D : List (Int × List (List Int))} {e e' : Int} {k : Nat}
theorem LdG.uniq (h : LdG D e) (h' : LdG D e') : e = e' := by
  rcases h with ⟨h1, h2⟩ | ⟨h1, h2⟩ <;> rcases h' with ⟨g1, g2⟩ | ⟨g1, g2⟩
  · omega
  · exact absurd h2 g2
  · exact absurd g2 h2
  · omega
theorem gM_mX (h : k < D.length) : gM (mX D) k = (gD D k).2 := by simp [gM, gD, mX, h]
theorem mX_len : (mX D).length = D.length := List.length_map _
theorem AllG.tg (h : AllG D) : D = tg (mX D) := dext (by rw [tg_len, mX_len]) fun i hi => by
  rw [tg_get (by rw [mX_len]; exact hi), gM_mX hi]
  exact Prod.ext (h.2 i hi).1 rfl
theorem AllG.ok (h : AllG D) : GOk (mX D) := ⟨by rw [mX_len]; exact h.1, fun l hl => by
  obtain ⟨d, hd, rfl⟩ := List.mem_map.1 hl
  obtain ⟨j, hj, rfl⟩ := List.getElem_of_mem hd
  have := (h.2 j hj).2
  have e : gD D j = D[j] := by simp [gD, hj]
  rwa [e] at this⟩
theorem mX_take (h : k < D.length) : (mX D).take (k + 1) = (mX D).take k ++ [(gD D k).2] := by
  have h1 : k < (mX D).length := by rw [mX_len]; exact h
  have h2 := gM_mX h
  rw [List.take_add_one, List.getElem?_eq_getElem h1]
  have e : gM (mX D) k = (mX D)[k] := by simp [gM, h]
  rw [e] at h2
  rw [h2]; rfl
theorem bad_mem (h1 : k < D.length) (hj : j < (gD D k).2.length) (hb : ¬ ((isC (ow (gr (gD D k).2 j)) ∧ isR (mo (gr (gD D k).2 j))) ∧ (0 < j → ow (gr (gD D k).2 (j - 1)) < ow (gr (gD D k).2 j)))) : ¬ AllG D := fun h => hb (mok_mp (h.2 k h1).2.1 j hj)
theorem tupi {x y z : Int} (h : x = y) : Value.tuple #[.int .i64 x, .int .i64 z] = .tuple #[.int .i64 y, .int .i64 z] := by rw [h]
theorem put_cells {c r : Int} {ex : List Value} (hm : MOk l) (hh : hasM l c = true) : setRange (fr l ++ ex) (0 + posM l c * 2) [.int .i64 c, .int .i64 r] = fr (putA l c r) ++ ex := by
  obtain ⟨h1, h2⟩ := at_pos hm.srt hh
  have hx : (ints (gr l (posM l c))).length = 2 := (List.length_map _).trans (hm.wide.get h1)
  have e1 : fr l = fr (l.take (posM l c)) ++ (ints (gr l (posM l c)) ++ fr (l.drop (posM l c + 1))) := by
    conv => lhs; rw [← List.take_append_drop (posM l c) l, fr_app, drop_gr h1]
    rfl
  have e2 : (fr (l.take (posM l c))).length = posM l c * 2 := by rw [fr_len hm.wide.take, List.length_take, Nat.min_eq_left (Nat.le_of_lt h1)]
  rw [e1, Nat.zero_add, ← e2, List.append_assoc, List.append_assoc, setRange_at _ _ _ _ hx, putA_at hh, fr_app, fr_app]
  simp [fr, ints]
theorem len_putA_has {c r : Int} (hm : MOk l) (hh : hasM l c = true) : (putA l c r).length = l.length := by
  obtain ⟨h1, h2⟩ := at_pos hm.srt hh
  rw [putA_at hh]; simp; omega
theorem len_putA_no {c r : Int} (hh : hasM l c = false) : (putA l c r).length = l.length + 1 := by
  have := pos_le l c
  rw [putA_in hh]; simp; omega
theorem len_wo {c : Int} (hm : MOk l) (hh : hasM l c = true) : (wo l c).length = l.length - 1 := by
  obtain ⟨h1, h2⟩ := at_pos hm.srt hh
  rw [wo_at hh]; simp; omega
def lastM (l : List (List Int)) : Nat → Int
  | 0 => 0
  | j + 1 => ow (gr l j)
theorem mp_bad (h : ¬ isC (ow (gr l j)) ∨ ¬ isR (mo (gr l j)) ∨ (isC (ow (gr l j)) ∧ ow (gr l j) ≤ lastM l j)) : ¬ ((isC (ow (gr l j)) ∧ isR (mo (gr l j))) ∧ (0 < j → ow (gr l (j - 1)) < ow (gr l j))) := fun h2 => by
  rcases h with h | h | ⟨h, h1⟩
  · exact h h2.1.1
  · exact h h2.1.2
  · cases j with
    | zero => simp only [lastM] at h1; have := h.1; omega
    | succ j => have := h2.2 (by omega); simp only [lastM, Nat.add_sub_cancel] at h1 this; omega
theorem mp_next (h : MP l j) (h1 : isC (ow (gr l j))) (h2 : isR (mo (gr l j))) (h3 : ¬ ow (gr l j) ≤ lastM l j) : MP l (j + 1) := all_next h ⟨⟨h1, h2⟩, fun h0 => by
  cases j with
  | zero => omega
  | succ j => simp only [lastM, Nat.add_sub_cancel] at h3 ⊢; omega⟩
theorem mp_next2 (h : MP l j) (h1 : isC (ow (gr l j))) (h2 : isR (mo (gr l j))) (h3 : 0 < j → ¬ ow (gr l j) ≤ ow (gr l (j - 1))) : MP l (j + 1) := all_next h ⟨⟨h1, h2⟩, fun h0 => by have := h3 h0; omega⟩
theorem okg_led (h : OkG D k) : ledD (gD D k).2 = true := by rw [led_same (fun r hr => (h.2.1.ok r hr).2)]; exact h.2.2
theorem not_all (hk : k < D.length) (h : ¬ OkG D k) : ¬ AllG D := fun h2 => h (h2.2 k hk)
end
end Go.XG
