/-
  The laws of a contract, in plain Lean: it ends once, and all that was locked is paid out.
-/
import Derived.Test.YtpppiliakgoihaaV
namespace Go.XG
theorem mask30 (a : Int) : bits2 .and .i64 a 1073741823 = a % 1073741824 := by
  have h1 : (BitVec.ofInt 64 (1073741823 : Int)).toNat = 2 ^ 30 - 1 := by decide
  have h2 : (BitVec.ofInt 64 a).toNat = (a % 18446744073709551616).toNat := by rw [BitVec.toNat_ofInt]; rfl
  have h4 : (BitVec.ofInt 64 a &&& BitVec.ofInt 64 1073741823).toNat = (a % 18446744073709551616).toNat % 2 ^ 30 := by
    rw [BitVec.toNat_and, h1, Nat.and_two_pow_sub_one_eq_mod, h2]
  show IntKind.i64.wrap (((BitVec.ofInt 64 a &&& BitVec.ofInt 64 1073741823).toNat : Nat) : Int) = _
  rw [h4]
  have h3 : (((a % 18446744073709551616).toNat % 2 ^ 30 : Nat) : Int) = a % 1073741824 := by omega
  rw [h3]
  exact fit_i64 (by omega)
theorem res_g {H : Heap} {a b a' b' : Option Addr} {d x : D} (h : Res d x a b a' b') (hs : Stks H a d.gives) : Stks H a' x.gives := by
  rcases h with ⟨h, _⟩ | ⟨h1, _, h3, _⟩
  · exact .inl h
  · rw [h1, h3]; exact hs
theorem res_w {H : Heap} {a b a' b' : Option Addr} {d x : D} (h : Res d x a b a' b') (hs : Stks H b d.wants) : Stks H b' x.wants := by
  rcases h with ⟨_, h⟩ | ⟨_, h1, _, h3⟩
  · exact .inl h
  · rw [h1, h3]; exact hs
theorem res_gl {a b a' b' : Option Addr} {d x : D} {n : Nat} (h : Res d x a b a' b') (hl : d.gives.length < n) : x.gives.length < n := by
  rcases h with ⟨h, _⟩ | ⟨h1, _, _, _⟩
  · omega
  · rw [h1]; exact hl
theorem res_wl {a b a' b' : Option Addr} {d x : D} {n : Nat} (h : Res d x a b a' b') (hl : d.wants.length < n) : x.wants.length < n := by
  rcases h with ⟨_, h⟩ | ⟨_, h1, _, _⟩
  · omega
  · rw [h1]; exact hl
theorem eq_of_or {p : Prop} {a b : Int} (h : p ∧ a = 0 ∨ ¬ p ∧ a = 1) (k : p ∧ b = 0 ∨ ¬ p ∧ b = 1) : a = b := by
  rcases h with ⟨h, rfl⟩ | ⟨h, rfl⟩ <;> rcases k with ⟨k, rfl⟩ | ⟨k, rfl⟩ <;> first | rfl | exact absurd h k | exact absurd k h
abbrev PL : D := ⟨1, 1, 2, 0, 2, 0, 1, 2, 30, 100, 10, 20, 0, [(1, 5)], [], 1, 10, 0, 0⟩
def tot (l : List (List Int)) : Int := (l.map fun r => r.getD 2 0).sum
theorem tot_take {l : List (List Int)} {i : Nat} (h : i < l.length) : tot (l.take (i + 1)) = tot (l.take i) + (gr l i).getD 2 0 := by
  unfold tot; rw [take_gr h]; simp
theorem tot_keep : ∀ l : List (List Int), tot (keep l) = tot l
  | [] => rfl
  | r :: l => by
    have ih := tot_keep l
    unfold keep tot at *
    by_cases h : r.getD 2 0 = 0
    · rw [List.filter_cons, if_neg (by simp only [zero, h, decide_true]; decide), ih]; show _ = r.getD 2 0 + (List.map (fun r => r.getD 2 0) l).sum; rw [h, Int.zero_add]
    · rw [List.filter_cons, if_pos (by simp only [zero, h, decide_false]; decide)]; simp only [List.map_cons, List.sum_cons, ih]
/-- The payments of a contract: each is more than nothing, and not too much. -/
def Paid (l : List (List Int)) : Prop := l.length ≤ 2 ∧ ∀ i, i < l.length → 1 ≤ (gr l i).getD 2 0 ∧ (gr l i).getD 2 0 ≤ 2305843009213693952
section
variable {d : D} {s tax : Int}
theorem all_hi (h : ShArgs d s tax) : ∀ r ∈ allD d s tax, 0 ≤ r.getD 2 0 ∧ r.getD 2 0 ≤ 2305843009213693952 := by
  have h1 := good_pay h.1
  have h2 := good_pledge h.1
  have h3 := h.2.1
  intro r hr
  unfold allD at hr
  split at hr
  · simp at hr; rcases hr with rfl | rfl <;> simp <;> omega
  · split at hr
    · cases hr
    · split at hr
      · simp at hr; subst hr; simp; omega
      · split at hr <;> (simp at hr; subst hr; simp; omega)
theorem paid_keep (h : ShArgs d s tax) : Paid (keep (allD d s tax)) := by
  refine ⟨Nat.le_trans (keep_len _) all_len, fun i hi => ?_⟩
  rw [gr_eq hi]
  have hm : (keep (allD d s tax))[i] ∈ (allD d s tax).filter fun r => !zero r := List.getElem_mem hi
  obtain ⟨h1, h2⟩ := List.mem_filter.1 hm
  have h3 := all_hi h _ h1
  have h4 : ¬ (keep (allD d s tax))[i].getD 2 0 = 0 := by
    intro e; simp only [zero, e, decide_true] at h2; exact absurd h2 (by decide)
  omega
theorem good_args (h : Good d) : ShArgs d s 0 := ⟨h, by have := good_pay h; omega, .inl rfl⟩
/-- What is locked, while it stands so. -/
def locked (d : D) : Int := if d.st = 2 then d.pay + d.pledge else if d.kind = 2 then 0 else d.pay
theorem tot_all (hE : Ends d s) (h : Good d) : tot (allD d s 0) = locked d := by
  have hk := h.2.2.2.1
  have hst := h.2.2.2.2
  have hns : ¬ Sold d s := by unfold Sold; unfold Ends at hE; omega
  unfold allD locked
  rw [if_neg hns]
  unfold Ends at hE
  by_cases hk2 : d.kind = 2
  · rw [if_pos hk2, if_pos hk2]
    have : d.st ≠ 2 := by unfold Stands at hst; omega
    rw [if_neg this]; rfl
  · rw [if_neg hk2, if_neg hk2]
    by_cases h1 : d.st = 1
    · rw [if_pos h1, if_neg (by omega)]; simp [tot]
    · rw [if_neg h1, if_pos (show d.st = 2 by omega)]
      split <;> simp [tot]
/-- An end that may be: what is paid, and what comes of it. -/
theorem end_all (h : Good d) (hE : Ends d s) : ∃ l, sharesD d s 0 = (0, l) ∧ Paid l ∧ tot l = locked d :=
  ⟨_, (sh_ok (good_args h) (.inr hE) rfl).symm, paid_keep (good_args h), by rw [tot_keep, tot_all hE h]⟩
theorem sold_all (h : Good d) (hS : Sold d 3) : ∃ l, sharesD d 3 (d.pay / 3) = (0, l) ∧ Paid l ∧ tot l = d.pay := by
  have hp := good_pay h
  have ha : ShArgs d 3 (d.pay / 3) := ⟨h, by omega, .inr hS⟩
  refine ⟨_, (sh_ok ha (.inl hS) rfl).symm, paid_keep ha, ?_⟩
  rw [tot_keep, ← all_1 hS]
  simp [tot]
theorem stands_end {y : D} (e1 : y.kind = d.kind) (e2 : y.taker = d.taker) (e3 : y.into = d.into) (e4 : y.iss = d.iss) (e5 : y.to = d.to) (e6 : y.st = s) (e7 : y.due = 0) (hE : Ends d s) (h : Stands d) : Stands y := by
  have key : (d.st = 2 → d.kind = 1 ∧ Taken d) ∧ (d.st = 1 → Free d) := by
    unfold Stands at h
    constructor
    · intro h2
      rcases h with h | h | h | h | h | h
      · have := h.1; omega
      · exact ⟨h.2.1, h.2.2.2⟩
      · have := h.1; omega
      · have := h.1; omega
      · have := h.1; omega
      · have := h.1; omega
    · intro h2
      rcases h with h | h | h | h | h | h
      · exact h.2.2
      · have := h.1; omega
      · have := h.1; omega
      · have := h.1; omega
      · have := h.1; omega
      · have := h.1; omega
  rcases hE with ⟨h1, h2⟩ | ⟨h1, h2⟩
  · obtain ⟨hk, hT⟩ := key.1 h1
    have hT' : Taken y := by unfold Taken at *; rw [e2, e3, e4]; exact hT
    rcases h2 with rfl | rfl
    · exact .inr (.inr (.inl ⟨e6, e7, hT'⟩))
    · exact .inr (.inr (.inr (.inl ⟨e6, by rw [e1]; exact hk, e7, hT'⟩)))
  · have hF : Free y := by have := key.2 h1; unfold Free at *; rw [e2, e3]; exact this
    rcases h2 with rfl | rfl | ⟨rfl, h5⟩
    · exact .inr (.inr (.inr (.inr (.inr ⟨.inl e6, e7, hF⟩))))
    · exact .inr (.inr (.inr (.inr (.inr ⟨.inr e6, e7, hF⟩))))
    · exact .inr (.inr (.inr (.inr (.inl ⟨e6, by rw [e5]; exact h5, e7, hF⟩))))
theorem end_good (h : Good d) (hE : Ends d s) : Good { d with st := s, due := 0 } :=
  ⟨h.1, h.2.1, h.2.2.1, h.2.2.2.1, stands_end (d := d) (s := s) rfl rfl rfl rfl rfl rfl rfl hE h.2.2.2.2⟩
theorem stands_take {y : D} {now t i : Int} (e1 : y.kind = d.kind) (e2 : y.taker = t) (e3 : y.into = i) (e4 : y.iss = d.iss) (e6 : y.st = 3 ∧ y.due = 0 ∨ d.kind ≠ 2 ∧ y.st = 2 ∧ y.due = now + d.days) (ha : TakeArgs d now t i) (hn : now < 1073741824) (hk : Kin d) : Stands y := by
  have hT : Taken y := by unfold Taken; rw [e2, e3, e4]; unfold TakeArgs at ha; omega
  rcases e6 with ⟨h1, h2⟩ | ⟨h1, h2, h3⟩
  · exact .inr (.inr (.inl ⟨h1, h2, hT⟩))
  · have hk1 : y.kind = 1 := by unfold Kin at hk; omega
    exact .inr (.inl ⟨h2, hk1, by unfold Due; unfold TakeArgs Now at ha; unfold Kin at hk; omega, hT⟩)
theorem take_good {now t i : Int} (h : Good d) (ha : TakeArgs d now t i) (hn : now < 1073741824) : Good (takenD d now t i) := by
  obtain ⟨h1, h2, h3, h4, h5⟩ := h
  unfold takenD
  split
  · exact ⟨h1, h2, h3, h4, stands_take (d := d) rfl rfl rfl rfl (.inl ⟨rfl, rfl⟩) ha hn h4⟩
  · rename_i hk
    exact ⟨h1, h2, h3, h4, stands_take (d := d) rfl rfl rfl rfl (.inr ⟨hk, rfl, rfl⟩) ha hn h4⟩
end
/-- What is so between two ends that are tried. -/
structure Once (x : D) (over lk : Int) : Prop where
  good : Good x
  one : over = 0 ∧ (x.st = 1 ∨ x.st = 2) ∧ lk = locked x ∨ over = 1 ∧ x.st ≠ 1 ∧ x.st ≠ 2
  big : 0 ≤ lk ∧ lk ≤ 2305843009213693952
section
variable {x z : D} {s over lk r : Int}
theorem open_good {d : D} {now : Int} (h : openD d now = (0, x)) : Good x ∧ x.st = 1 ∧ 0 ≤ now ∧ now ≤ 1099511627776 := by
  unfold openD at h
  split at h
  · rename_i hc
    simp only [Prod.mk.injEq, true_and] at h
    subst h
    refine ⟨hc.2, rfl, ?_⟩
    have := hc.1.1; unfold Now at this; exact this
  · simp at h
theorem open_err {d : D} {now : Int} (h : openD d now = (r, x)) (hr : r ≠ 0) : r = 1 := by
  unfold openD at h
  split at h
  · simp only [Prod.mk.injEq] at h; omega
  · simp only [Prod.mk.injEq] at h; omega
theorem end_cases (h : Good x) (he : endD x s = (r, z)) (hr : r = 0) : Ends x s ∧ z = { x with st := s, due := 0 } := by
  unfold endD at he
  split at he
  · simp only [Prod.mk.injEq] at he; omega
  · split at he
    · simp only [Prod.mk.injEq] at he; omega
    · rename_i h1 h2
      simp only [Prod.mk.injEq] at he
      exact ⟨Decidable.not_not.1 h2, he.2.symm⟩
theorem take_cases {now t i : Int} (he : takeD x now t i = (r, z)) (hr : r = 0) : Good x ∧ TakeArgs x now t i ∧ TakeMay x t ∧ z = takenD x now t i := by
  unfold takeD at he
  split at he
  · simp only [Prod.mk.injEq] at he; omega
  · split at he
    · simp only [Prod.mk.injEq] at he; omega
    · rename_i h1 h2
      simp only [Prod.mk.injEq] at he
      exact ⟨(Decidable.not_not.1 h1).1, (Decidable.not_not.1 h1).2, Decidable.not_not.1 h2, he.2.symm⟩
theorem ends_open (h : Ends x s) : x.st = 1 ∨ x.st = 2 := by unfold Ends at h; omega
theorem ends_over (h : Ends x s) : s ≠ 1 ∧ s ≠ 2 := by unfold Ends at h; omega
theorem locked_big (h : Good x) : 0 ≤ locked x ∧ locked x ≤ 2305843009213693952 := by
  have h1 := good_pay h
  have h2 := good_pledge h
  unfold locked
  split
  · omega
  · split <;> omega
theorem once_end (h : Once x over lk) (hE : Ends x s) : over = 0 ∧ lk = locked x ∧ Once { x with st := s, due := 0 } 1 lk := by
  have h1 := ends_open hE
  have h2 := h.one
  have h3 := ends_over hE
  refine ⟨by omega, by omega, end_good h.good hE, .inr ⟨rfl, ?_, ?_⟩, h.big⟩
  · simp only; omega
  · simp only; omega
theorem late_iff (h : Once x over lk) {n : Int} (hl : (n, r) = lateD x) : r = 0 ↔ over = 0 := by
  have h1 := h.one
  unfold lateD at hl
  rw [if_neg (fun k => k h.good)] at hl
  split at hl
  · simp only [Prod.mk.injEq] at hl; omega
  · split at hl
    · simp only [Prod.mk.injEq] at hl; omega
    · simp only [Prod.mk.injEq] at hl; omega
end
end Go.XG
namespace Go.XG
theorem len_shares {d : D} {s tax e : Int} {l : List (List Int)} (h : (e, l) = sharesD d s tax) : l.length < 4611686018427387904 := by
  unfold sharesD at h
  split at h
  · simp only [Prod.mk.injEq] at h; rw [h.2]; decide
  · split at h
    · simp only [Prod.mk.injEq] at h; rw [h.2]; decide
    · simp only [Prod.mk.injEq] at h
      rw [h.2]
      have := keep_len (allD d s tax)
      have := all_len (d := d) (s := s) (tax := tax)
      omega
end Go.XG
namespace Go.XG
section
variable {x y d : D} {now t i ov lk : Int} {a b a' b' a2 b2 : Option Addr}
theorem locked_1 (h : x.st = 1) (k : x.kind = 2) : 0 = locked x := by unfold locked; rw [if_neg (by omega), if_pos k]
theorem locked_2 (h : x.st = 1) (k : x.kind ≠ 2) : x.pay = locked x := by unfold locked; rw [if_neg (by omega), if_neg k]
theorem taken_st2 (k : x.kind = 2) : (takenD x now t i).st = 3 := by unfold takenD; rw [if_pos k]
theorem taken_st1 (k : x.kind ≠ 2) : (takenD x now t i).st = 2 := by unfold takenD; rw [if_neg k]
theorem taken_pay : x.pay + x.pledge = (takenD x now t i).pay + (takenD x now t i).pledge := by unfold takenD; split <;> rfl
theorem taken_lists : (takenD x now t i).gives = x.gives ∧ (takenD x now t i).wants = x.wants := by unfold takenD; split <;> exact ⟨rfl, rfl⟩
theorem res_taken (h : Res d x a b a' b') (k : Res x (takenD x now t i) a' b' a2 b2) : Res d (takenD x now t i) a b a2 b2 := by
  have hl := taken_lists (x := x) (now := now) (t := t) (i := i)
  rcases k with ⟨k1, k2⟩ | ⟨k1, k2, k3, k4⟩
  · exact .inl ⟨k1, k2⟩
  · rcases h with ⟨h1, h2⟩ | ⟨h1, h2, h3, h4⟩
    · exact .inl ⟨by rw [hl.1]; exact h1, by rw [hl.2]; exact h2⟩
    · exact .inr ⟨by rw [hl.1]; exact h1, by rw [hl.2]; exact h2, k3.trans h3, k4.trans h4⟩
theorem once_1 (h : Once x 1 lk) (ho : ov = 0) : Once x (ov + 1) lk := by subst ho; exact h
theorem res_trans (h : Res d x a b a' b') (k : Res x y a' b' a2 b2) : Res d y a b a2 b2 := by
  rcases k with ⟨k1, k2⟩ | ⟨k1, k2, k3, k4⟩
  · exact .inl ⟨k1, k2⟩
  · rcases h with ⟨h1, h2⟩ | ⟨h1, h2, h3, h4⟩
    · exact .inl ⟨by rw [k1]; exact h1, by rw [k2]; exact h2⟩
    · exact .inr ⟨by rw [k1]; exact h1, by rw [k2]; exact h2, k3.trans h3, k4.trans h4⟩
theorem once_open (h : Good x) (h1 : x.st = 1) (hl : lk = locked x) : Once x 0 lk := ⟨h, .inl ⟨rfl, .inl h1, hl⟩, by rw [hl]; exact locked_big h⟩
theorem once_taken (h : Good y) (h1 : y.st = 2) (hl : lk = y.pay + y.pledge) (ho : ov = 0) : Once y ov lk := by
  have hl' : lk = locked y := by unfold locked; rw [if_pos h1]; exact hl
  exact ⟨h, .inl ⟨ho, .inr h1, hl'⟩, by rw [hl']; exact locked_big h⟩
theorem once_tk (h : Good (takenD x now t i)) (h1 : x.st = 1) (k : x.kind ≠ 2) (hl : lk = locked x) : Once (takenD x now t i) 0 (lk + x.pledge) :=
  once_taken h (taken_st1 k) (by rw [hl, ← locked_2 h1 k]; exact taken_pay) rfl
theorem once_sold (h : Good y) (h1 : y.st = 3) (ho : ov = 1) (hb : 0 ≤ lk ∧ lk ≤ 2305843009213693952) : Once y ov lk := ⟨h, .inr ⟨ho, by omega, by omega⟩, hb⟩
end
end Go.XG
