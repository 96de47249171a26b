/-
  Contracts, in plain Lean: what comes of one that is opened, taken, ended.
-/
import Derived.Test.YtpppiliakgoihaaP
namespace Go.XG
section
variable {C : Cx} {o : Oper} {ρ : Env}
theorem pv_build_f {t e n : TypeId} {ps : Array (Nat × Operand)} {qs : List (Nat × Value)} {agg : Bool} {size bytes bytes' : Nat} {zero : Value} {zs cs : List Value} [Und C.P t (.array n e)] [Inf C.P e agg 1 bytes' zero] [Inf C.P t true size bytes (.agg zs.toArray)] (ho : o.op = .build t ps)
    (hq : ps.toList.map (fun p => (p.1, ev ρ p.2)) = qs) (hc : partsL 1 0 qs = some cs) (hl : zs.length = qs.length) : PV C o ρ (.agg cs.toArray) :=
  pv_build_a ho hq (by have := fillL_parts 1 qs 0 [] zs cs hc rfl (by omega); simpa using this)
end
def Ends (d : D) (s : Int) : Prop := d.st = 2 ∧ (s = 3 ∨ s = 4) ∨ d.st = 1 ∧ (s = 6 ∨ s = 7 ∨ s = 5 ∧ d.to ≠ 0)
instance (d : D) (s : Int) : Decidable (Ends d s) := by unfold Ends; infer_instance
abbrev opened (d : D) (now : Int) : D := { d with st := 1, due := now + d.lasts, taker := 0, into := 0 }
def Now (now : Int) : Prop := 0 ≤ now ∧ now ≤ 1099511627776
instance (now : Int) : Decidable (Now now) := by unfold Now; infer_instance
def openD (d : D) (now : Int) : Int × D :=
  if (Now now ∧ 1 ≤ d.lasts ∧ d.lasts ≤ 1048576) ∧ Good (opened d now) then (0, opened d now) else (1, D0)
theorem open_bad {d : D} {now : Int} (h : ¬ (Now now ∧ 1 ≤ d.lasts ∧ d.lasts ≤ 1048576)) : openD d now = (1, D0) := if_neg fun h' => h h'.1
theorem open_no {d : D} {now : Int} (h : ¬ Good (opened d now)) : openD d now = (1, D0) := if_neg fun h' => h h'.2
theorem open_ok {d : D} {now : Int} (h : Now now ∧ 1 ≤ d.lasts ∧ d.lasts ≤ 1048576) (h' : Good (opened d now)) : openD d now = (0, opened d now) := if_pos ⟨h, h'⟩
def endD (d : D) (s : Int) : Int × D := if ¬ Good d then (1, D0) else if ¬ Ends d s then (9, D0) else (0, { d with st := s, due := 0 })
theorem end_bad {d : D} {s : Int} (h : ¬ Good d) : endD d s = (1, D0) := if_pos h
theorem end_no {d : D} {s : Int} (h : Good d) (h' : ¬ Ends d s) : endD d s = (9, D0) := by unfold endD; rw [if_neg (fun k => k h), if_pos h']
theorem end_ok {d : D} {s : Int} (h : Good d) (h' : Ends d s) : endD d s = (0, { d with st := s, due := 0 }) := by unfold endD; rw [if_neg (fun k => k h), if_neg (fun k => k h')]
def lateD (d : D) : Int × Int := if ¬ Good d then (0, 1) else if d.st = 1 then (7, 0) else if d.st = 2 then (4, 0) else (0, 9)
theorem late_bad {d : D} (h : ¬ Good d) : lateD d = (0, 1) := if_pos h
theorem late_1 {d : D} (h : Good d) (h1 : d.st = 1) : lateD d = (7, 0) := by unfold lateD; rw [if_neg (fun k => k h), if_pos h1]
theorem late_2 {d : D} (h : Good d) (h1 : d.st = 2) : lateD d = (4, 0) := by unfold lateD; rw [if_neg (fun k => k h), if_neg (by omega), if_pos h1]
theorem late_no {d : D} (h : Good d) (h1 : d.st ≠ 1) (h2 : d.st ≠ 2) : lateD d = (0, 9) := by unfold lateD; rw [if_neg (fun k => k h), if_neg h1, if_neg h2]
def TakeArgs (d : D) (now t i : Int) : Prop := Now now ∧ (1 ≤ t ∧ t ≤ 1099511627776) ∧ t ≠ d.iss ∧ 0 ≤ i ∧ i ≤ 4
instance (d : D) (now t i : Int) : Decidable (TakeArgs d now t i) := by unfold TakeArgs; infer_instance
def TakeMay (d : D) (t : Int) : Prop := d.st = 1 ∧ (d.to = 0 ∨ d.to = t)
instance (d : D) (t : Int) : Decidable (TakeMay d t) := by unfold TakeMay; infer_instance
abbrev takenD (d : D) (now t i : Int) : D := if d.kind = 2 then { d with taker := t, into := i, st := 3, due := 0 } else { d with taker := t, into := i, st := 2, due := now + d.days }
def takeD (d : D) (now t i : Int) : Int × D :=
  if ¬ (Good d ∧ TakeArgs d now t i) then (1, D0) else if ¬ TakeMay d t then (9, D0) else (0, takenD d now t i)
theorem take_bad {d : D} {now t i : Int} (h : ¬ (Good d ∧ TakeArgs d now t i)) : takeD d now t i = (1, D0) := if_pos h
theorem take_no {d : D} {now t i : Int} (h : Good d) (ha : TakeArgs d now t i) (h' : ¬ TakeMay d t) : takeD d now t i = (9, D0) := by unfold takeD; rw [if_neg (fun k => k ⟨h, ha⟩), if_pos h']
theorem take_1 {d : D} {now t i : Int} (h : Good d) (ha : TakeArgs d now t i) (h' : TakeMay d t) (hk : d.kind ≠ 2) : takeD d now t i = (0, { d with taker := t, into := i, st := 2, due := now + d.days }) := by
  unfold takeD; rw [if_neg (fun k => k ⟨h, ha⟩), if_neg (fun k => k h')]; unfold takenD; rw [if_neg hk]
theorem take_2 {d : D} {now t i : Int} (h : Good d) (ha : TakeArgs d now t i) (h' : TakeMay d t) (hk : d.kind = 2) : takeD d now t i = (0, { d with taker := t, into := i, st := 3, due := 0 }) := by
  unfold takeD; rw [if_neg (fun k => k ⟨h, ha⟩), if_neg (fun k => k h')]; unfold takenD; rw [if_pos hk]
/-- What lists a result has: none, or the contract's own. -/
def Res (d x : D) (a b a' b' : Option Addr) : Prop := x.gives.length = 0 ∧ x.wants.length = 0 ∨ x.gives = d.gives ∧ x.wants = d.wants ∧ a' = a ∧ b' = b
theorem res0' {d : D} {a b : Option Addr} : Res d D0 a b none none := .inl ⟨rfl, rfl⟩
def nums (d : D) : List Int := [d.id, d.kind, d.iss, d.div, d.man, d.to, d.place, d.dest, d.pay, d.pledge, d.lasts, d.days, d.fee, d.st, d.due, d.taker, d.into]
theorem d_ext {d x : D} (h1 : d.gives = x.gives) (h2 : d.wants = x.wants) (h3 : nums d = nums x) : d = x := by
  cases d; cases x
  simp only [nums, List.cons.injEq, and_true] at h3
  simp_all
end Go.XG
