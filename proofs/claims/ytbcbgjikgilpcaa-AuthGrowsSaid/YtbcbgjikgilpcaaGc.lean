/-
  Who may do what, in plain Lean.
-/
import Derived.Test.YtbcbgjikgilpcaaGb
namespace Go.XG
/-- Every role needed is held. -/
def cov (r n : Int) : Prop := ∀ k, k < 8 → n.toNat.testBit k = true → r.toNat.testBit k = true
instance (r n : Int) : Decidable (cov r n) := by unfold cov; infer_instance
def hasN (r n : Int) : Prop := isR r ∧ isR n ∧ (r % 2 = 1 ∨ cov r n)
instance (r n : Int) : Decidable (hasN r n) := by unfold hasN; infer_instance
theorem tb_int {r : Int} (h : isR r) (k : Nat) : r.toNat.testBit k = true ↔ r / 2 ^ k % 2 = 1 := by
  obtain ⟨m, rfl⟩ : ∃ m : Nat, r = (m : Int) := ⟨r.toNat, (Int.toNat_of_nonneg h.1).symm⟩
  rw [Int.toNat_natCast, Nat.testBit_eq_decide_div_mod_eq]
  have e : ((m : Int) / 2 ^ k % 2) = ((m / 2 ^ k % 2 : Nat) : Int) := by simp
  rw [e]; simp; omega
theorem tb_lead {r : Int} (h : isR r) : r % 2 = 1 ↔ r.toNat.testBit 0 = true := by
  rw [tb_int h]; simp
theorem shr_bit {r : Int} (k : Nat) (hk : k < 8) : r.fdiv (2 ^ min ((k : Nat) : Int).toNat 64) = r / 2 ^ k := by
  rw [Int.toNat_natCast, Nat.min_eq_left (by omega)]
  exact Int.fdiv_eq_ediv_of_nonneg _ (Int.le_of_lt (Int.pow_pos (by decide)))
theorem div_nn {r : Int} (h : isR r) (k : Nat) : 0 ≤ r / 2 ^ k ∧ r / 2 ^ k < 9223372036854775808 := by
  have h1 : (0 : Int) < 2 ^ k := Int.pow_pos (by decide)
  refine ⟨Int.ediv_nonneg h.1 (Int.le_of_lt h1), ?_⟩
  have h2 : r / 2 ^ k ≤ r := Int.ediv_le_self _ h.1
  have := h.2
  omega
theorem andn_i64 {r n : Int} (hr : isR r) (hn : isR n) : (bits2 .andNot .i64 n r = 0) ↔ cov r n := by
  have hr1 := hr.2
  have hr0 := hr.1
  have hn1 := hn.2
  have hn0 := hn.1
  show IntKind.i64.wrap ((BitVec.ofInt 64 n &&& ~~~BitVec.ofInt 64 r).toNat : Int) = 0 ↔ _
  have hle : (BitVec.ofInt 64 n &&& ~~~BitVec.ofInt 64 r).toNat < 256 := by
    rw [BitVec.toNat_and, ofInt_toNat 64 n hn0 (by omega)]
    exact Nat.lt_of_le_of_lt Nat.and_le_left (by omega)
  rw [fit_i64 (by omega)]
  have key : ∀ i, i < 64 → ((BitVec.ofInt 64 n &&& ~~~BitVec.ofInt 64 r).getLsbD i = (n.toNat.testBit i && !r.toNat.testBit i)) := fun i hi => by
    rw [BitVec.getLsbD_and, BitVec.getLsbD_not]
    simp only [hi, decide_true, Bool.true_and]
    show ((BitVec.ofInt 64 n).toNat.testBit i && !(BitVec.ofInt 64 r).toNat.testBit i) = _
    rw [ofInt_toNat 64 n hn0 (by omega), ofInt_toNat 64 r hr0 (by omega)]
  constructor
  · intro h k hk h2
    have h0 : BitVec.ofInt 64 n &&& ~~~BitVec.ofInt 64 r = 0#64 := BitVec.eq_of_toNat_eq (by simpa using (show (BitVec.ofInt 64 n &&& ~~~BitVec.ofInt 64 r).toNat = 0 by omega))
    have h3 := key k (by omega)
    rw [h0, h2] at h3
    simpa using h3.symm
  · intro h
    have h0 : BitVec.ofInt 64 n &&& ~~~BitVec.ofInt 64 r = 0#64 := by
      apply BitVec.eq_of_getLsbD_eq
      intro i hi
      rw [key i hi]
      simp only [BitVec.getLsbD_zero]
      cases hb : n.toNat.testBit i
      · rfl
      · have h8 : i < 8 := by
          rcases Nat.lt_or_ge i 8 with h4 | h4
          · exact h4
          · have : n.toNat.testBit i = false := Nat.testBit_lt_two_pow (Nat.lt_of_lt_of_le (show n.toNat < 2 ^ 8 by omega) (Nat.pow_le_pow_right (by decide) h4))
            rw [this] at hb; cases hb
        rw [h i h8 hb]; rfl
    rw [h0]; rfl
theorem has_lead {r n : Int} (hr : isR r) (hn : isR n) (h : r % 2 = 1) : hasN r n := ⟨hr, hn, .inl h⟩
theorem has_cov {r n : Int} (hr : isR r) (hn : isR n) (h : bits2 .andNot .i64 n r = 0) : hasN r n := ⟨hr, hn, .inr ((andn_i64 hr hn).1 h)⟩
theorem has_not {r n : Int} (h1 : ¬ r % 2 = 1) (h2 : ¬ bits2 .andNot .i64 n r = 0) : ¬ hasN r n := fun h => h.2.2.elim h1 (fun h3 => h2 ((andn_i64 h.1 h.2.1).2 h3))
/-- More roles: what one might, one may. -/
theorem or_isR {a b : Int} (ha : isR a) (hb : isR b) : isR ((a.toNat ||| b.toNat : Nat) : Int) := by
  have h1 := ha.2
  have h2 := hb.2
  have : a.toNat ||| b.toNat < 2 ^ 8 := Nat.or_lt_two_pow (by omega) (by omega)
  constructor <;> omega
theorem has_more {a b n : Int} (hb : isR b) (h : hasN a n) : hasN ((a.toNat ||| b.toNat : Nat) : Int) n := by
  obtain ⟨ha, hn, h⟩ := h
  refine ⟨or_isR ha hb, hn, h.imp (fun h1 => ?_) (fun h1 k hk h2 => ?_)⟩
  · rw [tb_lead ha] at h1
    rw [tb_lead (or_isR ha hb), Int.toNat_natCast, Nat.testBit_or, h1]; rfl
  · rw [Int.toNat_natCast, Nat.testBit_or, h1 k hk h2]; rfl
theorem pv_andNot {C : Cx} {o : Oper} {ρ : Env} {x y : Operand} {t u : TypeId} {k : IntKind} {m n r : Int} (ho : o.op = .binOp .andNot t x y u) (hx : ev ρ x = .int k m) (hy : ev ρ y = .int k n) (hr : bits2 .andNot k m n = r) : PV C o ρ (.int k r) := fun w => by
  subst hr; simp [execOp, ho, hx, hy, eqGuard, binOp, Op.intBits, bits2]
/-! Whose acts those are. -/
def exi (X : List (List (List Int))) (ch o : Int) : Prop := isC ch ∧ ((1 ≤ o ∧ o ≤ ch) ∨ inG X o)
instance (X : List (List (List Int))) (ch o : Int) : Decidable (exi X ch o) := by unfold exi; infer_instance
def mayE (X : List (List (List Int))) (ch who az n : Int) : Int :=
  if ¬ (isC ch ∧ isR n) then 1 else if who < 1 ∨ ch < who ∨ ¬ exi X ch az then 3 else if az = who then 0 else if rolE X az who = 0 ∧ hasN (rolN X az who) n then 0 else 8
section
variable {X : List (List (List Int))} {ch who az n o : Int} {k m : Nat}
theorem may1 (h : ¬ (isC ch ∧ isR n)) : mayE X ch who az n = 1 := if_pos h
theorem may3 (h1 : isC ch) (h2 : isR n) (h : who < 1 ∨ ch < who ∨ ¬ exi X ch az) : mayE X ch who az n = 3 := (if_neg (fun h3 => h3 ⟨h1, h2⟩)).trans (if_pos h)
theorem may0 (h1 : isC ch) (h2 : isR n) (h3 : ¬ who < 1) (h4 : ¬ ch < who) (h5 : exi X ch az) (h : az = who) : mayE X ch who az n = 0 := (if_neg (fun h3 => h3 ⟨h1, h2⟩)).trans ((if_neg (fun h6 => h6.elim h3 (fun h7 => h7.elim h4 (fun h8 => h8 h5)))).trans (if_pos h))
theorem may0' (h1 : isC ch) (h2 : isR n) (h3 : ¬ who < 1) (h4 : ¬ ch < who) (h5 : exi X ch az) (h : ¬ az = who) (h6 : rolE X az who = 0) (h7 : hasN (rolN X az who) n) : mayE X ch who az n = 0 := (if_neg (fun h3 => h3 ⟨h1, h2⟩)).trans ((if_neg (fun h6 => h6.elim h3 (fun h7 => h7.elim h4 (fun h8 => h8 h5)))).trans ((if_neg h).trans (if_pos ⟨h6, h7⟩)))
theorem may8 (h1 : isC ch) (h2 : isR n) (h3 : ¬ who < 1) (h4 : ¬ ch < who) (h5 : exi X ch az) (h : ¬ az = who) (h6 : ¬ (rolE X az who = 0 ∧ hasN (rolN X az who) n)) : mayE X ch who az n = 8 := (if_neg (fun h3 => h3 ⟨h1, h2⟩)).trans ((if_neg (fun h6 => h6.elim h3 (fun h7 => h7.elim h4 (fun h8 => h8 h5)))).trans ((if_neg h).trans (if_neg h6)))
def whoI (X : List (List (List Int))) (ch az n : Int) : Nat → List Int
  | 0 => []
  | k + 1 => whoI X ch az n k ++ if mayE X ch ((k : Int) + 1) az n = 0 then [(k : Int) + 1] else []
theorem whoI_len (X : List (List (List Int))) (ch az n : Int) : ∀ k, (whoI X ch az n k).length ≤ k
  | 0 => Nat.le_refl _
  | k + 1 => by
    have := whoI_len X ch az n k
    simp only [whoI, List.length_append]
    split <;> simp <;> omega
theorem whoI_yes (h : mayE X ch ((k : Int) + 1) az n = 0) : whoI X ch az n (k + 1) = whoI X ch az n k ++ [(k : Int) + 1] := by
  show whoI X ch az n k ++ _ = _; rw [if_pos h]
theorem whoI_not (h : ¬ mayE X ch ((k : Int) + 1) az n = 0) : whoI X ch az n (k + 1) = whoI X ch az n k := by
  show whoI X ch az n k ++ _ = _; rw [if_neg h, List.append_nil]
theorem whoI_end (h : ∀ j, k ≤ j → ¬ mayE X ch ((j : Int) + 1) az n = 0) (hk : k ≤ m) : whoI X ch az n m = whoI X ch az n k := by
  induction m with
  | zero => obtain rfl : k = 0 := by omega
            rfl
  | succ m ih =>
    rcases Nat.lt_or_ge m k with h1 | h1
    · obtain rfl : k = m + 1 := by omega
      rfl
    · rw [whoI_not (h m h1), ih h1]
theorem may_out (h : ch < who) : ¬ mayE X ch who az n = 0 := by
  by_cases h1 : isC ch ∧ isR n
  · rw [may3 h1.1 h1.2 (.inr (.inl h))]; decide
  · rw [may1 h1]; decide
theorem whoI_same (hk : (k : Int) ≤ 16) (h : ¬ (k : Int) + 1 ≤ min ch 16) : whoI X ch az n k = whoI X ch az n 16 := by
  rcases Int.lt_or_le 16 ch with h1 | h1
  · have : k = 16 := by omega
    rw [this]
  · exact (whoI_end (m := 16) (fun j hj => may_out (by omega)) (by omega)).symm
end
/-! The roles that an act needs. -/
def tkE (d : Int) : Int := if d < 1 ∨ 4 < d then 1 else 0
def tkN (d : Int) : Int := if d = 1 then 16 else if d = 2 then 32 else if d = 3 then 64 else if d = 4 then 128 else 0
def neeE (k d : Int) : Int := if d < 0 ∨ 4 < d then 1 else if 5 ≤ k ∧ k ≤ 19 then 0 else 1
def neeN (k d : Int) : Int := if neeE k d = 1 then 0 else if k ≤ 6 then 1 else if k = 7 then 2 else if k = 8 then tkN d else if k = 9 then 4 + tkN d else if k ≤ 13 then 4 else if k ≤ 15 then 10 + tkN d else 8
def divB (o d : Int) : Bool := if o < 101 then decide (d = 0) else decide (1 ≤ d ∧ d ≤ 4)
section
variable {k d : Int}
theorem shl_tk {x : Int} (h : 1 ≤ d ∧ d ≤ 4) (hx : x = d + 3) : IntKind.i64.wrap (1 * 2 ^ min x.toNat IntKind.i64.bits) = tkN d := by
  have h2 : d = 1 ∨ d = 2 ∨ d = 3 ∨ d = 4 := by omega
  rcases h2 with rfl | rfl | rfl | rfl <;> subst hx <;> decide
theorem tk_cases : tkN d = 0 ∨ tkN d = 16 ∨ tkN d = 32 ∨ tkN d = 64 ∨ tkN d = 128 := by
  unfold tkN; repeat' (first | omega | split)
theorem or4 : bits2 .or .i64 4 (tkN d) = 4 + tkN d := by
  have : tkN d = 0 ∨ tkN d = 16 ∨ tkN d = 32 ∨ tkN d = 64 ∨ tkN d = 128 := by unfold tkN; repeat' (first | omega | split)
  rcases this with h | h | h | h | h <;> rw [h] <;> decide
theorem or10 : bits2 .or .i64 10 (tkN d) = 10 + tkN d := by
  have : tkN d = 0 ∨ tkN d = 16 ∨ tkN d = 32 ∨ tkN d = 64 ∨ tkN d = 128 := by unfold tkN; repeat' (first | omega | split)
  rcases this with h | h | h | h | h <;> rw [h] <;> decide
theorem tk_le : 0 ≤ tkN d ∧ tkN d ≤ 128 := by unfold tkN; repeat' (first | omega | split)
theorem nee_isR : isR (neeN k d) := by
  have := tk_le (d := d)
  unfold isR neeN; repeat' (first | omega | split)
end
/-! One corporation, one member more. -/
theorem c216 {P : Int → Prop} (h : P 2 ∧ P 3 ∧ P 4 ∧ P 5 ∧ P 6 ∧ P 7 ∧ P 8 ∧ P 9 ∧ P 10 ∧ P 11 ∧ P 12 ∧ P 13 ∧ P 14 ∧ P 15 ∧ P 16) {c : Int} (h1 : 2 ≤ c) (h2 : c ≤ 16) : P c := by
  obtain ⟨p2, p3, p4, p5, p6, p7, p8, p9, p10, p11, p12, p13, p14, p15, p16⟩ := h
  have h3 : c = 2 ∨ c = 3 ∨ c = 4 ∨ c = 5 ∨ c = 6 ∨ c = 7 ∨ c = 8 ∨ c = 9 ∨ c = 10 ∨ c = 11 ∨ c = 12 ∨ c = 13 ∨ c = 14 ∨ c = 15 ∨ c = 16 := by omega
  rcases h3 with rfl | rfl | rfl | rfl | rfl | rfl | rfl | rfl | rfl | rfl | rfl | rfl | rfl | rfl | rfl <;> assumption
theorem inG1 (x : List (List Int)) : inG [x] 101 := ⟨by decide, by show (101 : Int) < 101 + ((1 : Nat) : Int); decide⟩
theorem exi1 (c r : Int) : exi [[[1, 1], [c, r]]] 16 101 := ⟨by decide, .inr (inG1 _)⟩
section
variable {c r s n : Int} (h1 : 2 ≤ c) (h2 : c ≤ 16)
include h1 h2
theorem gr_has0 : hasM [[1, 1]] c = false := c216 (P := fun c => hasM [[1, 1]] c = false) (by decide) h1 h2
theorem gr_put0 : putA [[1, 1]] c r = [[1, 1], [c, r]] := c216 (P := fun c => putA [[1, 1]] c r = [[1, 1], [c, r]]) ⟨rfl, rfl, rfl, rfl, rfl, rfl, rfl, rfl, rfl, rfl, rfl, rfl, rfl, rfl, rfl⟩ h1 h2
theorem gr_put1 : putA [[1, 1], [c, r]] c s = [[1, 1], [c, s]] := c216 (P := fun c => putA [[1, 1], [c, r]] c s = [[1, 1], [c, s]]) ⟨rfl, rfl, rfl, rfl, rfl, rfl, rfl, rfl, rfl, rfl, rfl, rfl, rfl, rfl, rfl⟩ h1 h2
theorem gr_has1 : hasM [[1, 1], [c, r]] c = true := c216 (P := fun c => hasM [[1, 1], [c, r]] c = true) ⟨rfl, rfl, rfl, rfl, rfl, rfl, rfl, rfl, rfl, rfl, rfl, rfl, rfl, rfl, rfl⟩ h1 h2
theorem gr_mon1 : mon [[1, 1], [c, r]] c = r := c216 (P := fun c => mon [[1, 1], [c, r]] c = r) ⟨rfl, rfl, rfl, rfl, rfl, rfl, rfl, rfl, rfl, rfl, rfl, rfl, rfl, rfl, rfl⟩ h1 h2
theorem gr_wo : wo [[1, 1], [c, r]] c = [[1, 1]] := c216 (P := fun c => wo [[1, 1], [c, r]] c = [[1, 1]]) ⟨rfl, rfl, rfl, rfl, rfl, rfl, rfl, rfl, rfl, rfl, rfl, rfl, rfl, rfl, rfl⟩ h1 h2
theorem gr_C : isC c := ⟨by omega, h2⟩
theorem gr_enr0 (hr : isR r) : enrE [[[1, 1]]] 101 c r = 0 ∧ enrX [[[1, 1]]] 101 c r = [[[1, 1], [c, r]]] := by
  obtain ⟨a, b⟩ := enr_set (X := [[[1, 1]]]) (id := 101) (c := c) (r := r) (by decide) ⟨gr_C h1 h2, hr⟩
  have e : enrL [[[1, 1]]] 101 c r = [[1, 1], [c, r]] := gr_put0 h1 h2
  have e0 : setE [[1, 1], [c, r]] = 0 := rfl
  rw [a, b, e, if_pos e0]; exact ⟨e0, rfl⟩
theorem gr_enr1 (hr : isR s) : enrE [[[1, 1], [c, r]]] 101 c s = 0 ∧ enrX [[[1, 1], [c, r]]] 101 c s = [[[1, 1], [c, s]]] := by
  obtain ⟨a, b⟩ := enr_set (X := [[[1, 1], [c, r]]]) (id := 101) (c := c) (r := s) (inG1 _) ⟨gr_C h1 h2, hr⟩
  have e : enrL [[[1, 1], [c, r]]] 101 c s = [[1, 1], [c, s]] := gr_put1 h1 h2
  have e0 : setE [[1, 1], [c, s]] = 0 := rfl
  rw [a, b, e, if_pos e0]; exact ⟨e0, rfl⟩
theorem gr_rol1 : rolE [[[1, 1], [c, r]]] 101 c = 0 ∧ rolN [[[1, 1], [c, r]]] 101 c = r := by
  obtain ⟨a, b⟩ := rol_yes (X := [[[1, 1], [c, r]]]) (id := 101) (c := c) (inG1 _) (gr_has1 h1 h2)
  exact ⟨a, b.trans (gr_mon1 h1 h2)⟩
theorem gr_exp : expE [[[1, 1], [c, r]]] 101 c = 0 ∧ expX [[[1, 1], [c, r]]] 101 c = [[[1, 1]]] := by
  obtain ⟨a, b⟩ := exp_set (X := [[[1, 1], [c, r]]]) (id := 101) (c := c) (gr_rol1 h1 h2).1
  have e : expL [[[1, 1], [c, r]]] 101 c = [[1, 1]] := gr_wo h1 h2
  have e0 : setE [[1, 1]] = 0 := rfl
  rw [a, b, e, if_pos e0]; exact ⟨e0, rfl⟩
theorem gr_may8 (hn : isR n) : mayE [[[1, 1]]] 16 c 101 n = 8 :=
  may8 (by decide) hn (by omega) (by omega) (by decide) (by omega) (fun h => by
    have := (rol_absent (X := [[[1, 1]]]) (id := 101) (c := c) (by decide) (gr_has0 h1 h2)).1
    rw [this] at h; exact absurd h.1 (by decide))
theorem gr_may1 (hn : isR n) : mayE [[[1, 1], [c, r]]] 16 c 101 n = if hasN r n then 0 else 8 := by
  obtain ⟨a, b⟩ := gr_rol1 (r := r) h1 h2
  split
  · rename_i h; exact may0' (by decide) hn (by omega) (by omega) (exi1 c r) (by omega) a (by rw [b]; exact h)
  · rename_i h; exact may8 (by decide) hn (by omega) (by omega) (exi1 c r) (by omega) (fun h3 => by rw [b] at h3; exact h h3.2)
end
theorem gr_may0 {n : Int} (hn : isR n) : mayE [[[1, 1]]] 16 1 101 n = 0 := may0' (by decide) hn (by decide) (by decide) (by decide) (by decide) (by decide) ⟨by decide, hn, .inl (by decide)⟩
end Go.XG
