/-
  XG, part a (second make): a small logic over the fenced walk's own rules: the frame as a function from slots to values, memory as the heap alone; frames of functions and of rounds. Judgements, control rules.
-/
import Derived.WalkKit
import Derived.KernelRfl
import Derived.RangeFuncNested
import Derived.RangeFuncBound
import Derived.RangeFuncCalls
namespace Go.XG

abbrev Env := Nat → Value
abbrev Heap := Array Obj
abbrev XPost := Exit → Env → Heap → Prop

def upd (ρ : Env) (d : Nat) (v : Value) : Env := fun i => bif Nat.beq i d then v else ρ i
def upds (σ : Env) : List (Nat × Value) → Env
  | [] => σ
  | p :: l => upd (upds σ l) p.1 p.2
def PatOk (ρ : Env) : List (Nat × Value) → Prop
  | [] => True
  | p :: l => ρ p.1 = p.2 ∧ PatOk ρ l
def ev (ρ : Env) : Operand → Value
  | .tmp t => ρ t
  | .const v => v
  | .global g => .pointer (some ⟨g, 0, none⟩)
  | .func f => .func (.func f) #[] #[]

/-- What a call of ours never turns: the tape, the outside, the output. -/
structure Outer where
  tape : Nat → Question → Nat
  os : Os
  output : Array (Nat × ByteArray)
def Outer.of (w : World) : Outer := ⟨w.tape, w.os, w.output⟩
structure Cx where
  P : Program
  N : Nat
  O : Outer
  r : Option Nat := none
  D : List Deferred := []
def Cx.F (C : Cx) : Fence := { Fence.wide with round := C.r }
/-- The mark of a range over a function among deferred calls. -/
def mark (k : Nat) : Deferred := { target := .collected k, args := #[] }
def Sees (O : Outer) (H : Heap) (w : World) : Prop := w.heap = H ∧ w.tape = O.tape ∧ w.os = O.os ∧ w.output = O.output
def Rel (N : Nat) (ρ : Env) (a : Act) : Prop := True ∧ a.tmps.size = N ∧ ∀ i, a.tmps.getD i undef = ρ i
def lift (C : Cx) (D : List Deferred) (Q : XPost) : Exit → Act → World → Prop
  | .ret, a, w => ∃ ρ H, Rel C.N ρ a ∧ Sees C.O H w ∧ ((a.defers = [] ∧ Q .ret ρ H) ∨ ∃ k, a.defers = [mark k] ∧ H[k]? = some (.deferred (some [])) ∧ Q .ret ρ (H.setIfInBounds k (.deferred none)))
  | e, a, w => ∃ ρ H, Rel C.N ρ a ∧ Sees C.O H w ∧ a.defers = D ∧ Q e ρ H
theorem lift_mono {C : Cx} {D : List Deferred} {Q Q' : XPost} (hq : ∀ e ρ H, Q e ρ H → Q' e ρ H) : ∀ e a w, lift C D Q e a w → lift C D Q' e a w := fun e a w h => by
  cases e with
  | ret =>
    obtain ⟨ρ, H, r, s, h | ⟨k, h1, h2, h3⟩⟩ := h
    · exact ⟨ρ, H, r, s, .inl ⟨h.1, hq _ _ _ h.2⟩⟩
    · exact ⟨ρ, H, r, s, .inr ⟨k, h1, h2, hq _ _ _ h3⟩⟩
  | _ =>
    obtain ⟨ρ, H, r, s, d, q⟩ := h
    exact ⟨ρ, H, r, s, d, hq _ _ _ q⟩
def xthen (K : Env → Heap → Prop) (Q : XPost) : XPost
  | .normal, ρ, H => K ρ H
  | e, ρ, H => Q e ρ H
def xblock (id : Nat) (Q : XPost) : XPost
  | .exit id', ρ, H => if id' = id then Q .normal ρ H else Q (.exit id') ρ H
  | e, ρ, H => Q e ρ H

def XC (C : Cx) (c : Code) (Q : XPost) (ρ : Env) (H : Heap) : Prop :=
  ∀ a w, Rel C.N ρ a → a.defers = C.D → Sees C.O H w → c.wpIn C.F 0 C.P (lift C C.D Q) a w
/-- The same, where the way off its end leaves other deferred calls. -/
def XD (C : Cx) (D : List Deferred) (c : Code) (Q : XPost) (ρ : Env) (H : Heap) : Prop :=
  ∀ a w, Rel C.N ρ a → a.defers = C.D → Sees C.O H w → c.wpIn C.F 0 C.P (lift C D Q) a w
def XL (C : Cx) (ops : Array Oper) (l : List Oper) (Q : XPost) (ρ : Env) (H : Heap) : Prop :=
  ∀ a w, Rel C.N ρ a → a.defers = C.D → Sees C.O H w → wpListIn C.F 0 C.P ops (lift C C.D Q) l a w

theorem upd_self (ρ : Env) (i : Nat) : upd ρ i (ρ i) = ρ := by
  funext j
  simp only [upd]
  cases h : Nat.beq j i with
  | true => have := Nat.eq_of_beq_eq_true h; subst this; rfl
  | false => rfl
theorem upds_of_ok {ρ : Env} : ∀ {l : List (Nat × Value)}, PatOk ρ l → upds ρ l = ρ
  | [], _ => rfl
  | (i, v) :: l, h => by
    show upd (upds ρ l) i v = ρ
    have h1 : ρ i = v := h.1
    rw [upds_of_ok h.2, ← h1, upd_self]

theorem blt_lt {d n : Nat} (h : Nat.blt d n = true) : d < n := Nat.le_of_ble_eq_true h
theorem Rel.eval {N : Nat} {ρ : Env} {a : Act} (h : Rel N ρ a) : a.eval = ev ρ := by
  funext x
  cases x with
  | tmp t => exact h.2.2 t
  | const v => rfl
  | global g => rfl
  | func f => rfl
theorem Rel.put {N : Nat} {ρ : Env} {a : Act} (h : Rel N ρ a) {d : Nat} (hd : d < N) (v : Value) : Rel N (upd ρ d v) (a.put (some d) v) := by
  refine ⟨trivial, by simp [Act.put, h.2.1], fun i => ?_⟩
  have hi := h.2.2 i
  simp only [Act.put, upd]
  have hsz : d < a.tmps.size := by rw [h.2.1]; exact hd
  cases hb : Nat.beq i d with
  | true =>
    have := Nat.eq_of_beq_eq_true hb
    subst this
    simp [Array.getD, hsz]
  | false =>
    have hne : i ≠ d := Nat.ne_of_beq_eq_false hb
    simp only [cond_false]
    rw [← hi]
    simp only [Array.getD_eq_getD_getElem?]
    rw [Array.getElem?_setIfInBounds_ne (Ne.symm hne)]

section control
variable {C : Cx} {Q : XPost} {ρ : Env} {H : Heap}
theorem xc_mono {c : Code} {Q' : XPost} (h : XC C c Q ρ H) (hq : ∀ e ρ H, Q e ρ H → Q' e ρ H) : XC C c Q' ρ H :=
  fun a w hr hd hs => wpIn_mono (h a w hr hd hs) (lift_mono hq)
theorem xc_skip (h : Q .normal ρ H) : XC C .skip Q ρ H := fun _ _ hr hd hs => wpIn_skip ⟨ρ, H, hr, hs, hd, h⟩
theorem xc_label {l : Nat} (h : Q .normal ρ H) : XC C (.label l) Q ρ H := fun _ _ hr hd hs => wpIn_label ⟨ρ, H, hr, hs, hd, h⟩
theorem xc_exit {id : Nat} (h : Q (.exit id) ρ H) : XC C (.exit id) Q ρ H := fun _ _ hr hd hs => wpIn_exit ⟨ρ, H, hr, hs, hd, h⟩
theorem xc_ret (h : Q .ret ρ H) (hD : C.D = [] := by rfl) : XC C .ret Q ρ H := fun _ _ hr hd hs => wpIn_ret ⟨ρ, H, hr, hs, .inl ⟨hd.trans hD, h⟩⟩
/-- A return that comes to a mark: the block of the rounds' deferred calls is shut. -/
theorem xc_retm {k : Nat} (hD : C.D = [mark k]) (hk : H[k]? = some (.deferred (some []))) (h : Q .ret ρ (H.setIfInBounds k (.deferred none))) : XC C .ret Q ρ H := fun _ _ hr hd hs => wpIn_ret ⟨ρ, H, hr, hs, .inr ⟨k, hd.trans hD, hk, h⟩⟩
theorem xc_seq {x y : Code} (h : XC C x (xthen (XC C y Q) Q) ρ H) : XC C (.seq x y) Q ρ H := by
  intro a w hr hd hs
  refine wpIn_seq (wpIn_mono (h a w hr hd hs) ?_)
  intro e a' w' hl
  cases e with
  | normal => obtain ⟨ρ', H', r, s, d, q⟩ := hl; exact q a' w' r d s
  | _ => exact hl
theorem xc_cond_t {c : Operand} {x y : Code} (hc : ev ρ c = .bool true) (h : XC C x Q ρ H) : XC C (.cond c x y) Q ρ H :=
  fun a w hr hd hs => wpIn_cond_true (by rw [hr.eval]; exact hc) (h a w hr hd hs)
theorem xc_cond_f {c : Operand} {x y : Code} (hc : ev ρ c = .bool false) (h : XC C y Q ρ H) : XC C (.cond c x y) Q ρ H :=
  fun a w hr hd hs => wpIn_cond_false (by rw [hr.eval]; exact hc) (h a w hr hd hs)
theorem xc_cond {c : Operand} {x y : Code} {t : Bool} (hc : ev ρ c = .bool t) (h1 : t = true → XC C x Q ρ H) (h2 : t = false → XC C y Q ρ H) : XC C (.cond c x y) Q ρ H :=
  fun a w hr hd hs => wpIn_cond_split (by rw [hr.eval]; exact hc) (fun ht => h1 ht a w hr hd hs) (fun ht => h2 ht a w hr hd hs)
theorem lift_block {D : List Deferred} {id : Nat} : ∀ e a w, lift C D (xblock id Q) e a w → Exit.inBlock id (lift C D Q) e a w := fun e a w hl => by
  cases e with
  | exit id' =>
    obtain ⟨ρ', H', r, s, d, q⟩ := hl
    simp only [xblock] at q
    simp only [Exit.inBlock]
    split <;> rename_i hid
    · rw [if_pos hid] at q; exact ⟨ρ', H', r, s, d, q⟩
    · rw [if_neg hid] at q; exact ⟨ρ', H', r, s, d, q⟩
  | _ => exact hl
theorem xc_block {id : Nat} {c : Code} (h : XC C c (xblock id Q) ρ H) : XC C (.block id c) Q ρ H :=
  fun a w hr hd hs => wpIn_block (wpIn_mono (h a w hr hd hs) lift_block)
theorem xd_block {D : List Deferred} {id : Nat} {c : Code} (h : XD C D c (xblock id Q) ρ H) : XD C D (.block id c) Q ρ H :=
  fun a w hr hd hs => wpIn_block (wpIn_mono (h a w hr hd hs) lift_block)
/-- Of the ways out only the return. -/
def xret (Q : XPost) : XPost
  | .ret, ρ, H => Q .ret ρ H
  | _, _, _ => False
/-- The last loop over a function, and what returns behind it. -/
theorem xc_seq_marks {D : List Deferred} {x y : Code} (h : XD C D x (xthen (XC { C with D := D } y (xret Q)) (xret Q)) ρ H) : XC C (.seq x y) Q ρ H := by
  intro a w hr hd hs
  refine wpIn_seq (wpIn_mono (h a w hr hd hs) ?_)
  intro e a' w' hl
  cases e with
  | normal =>
    obtain ⟨ρ', H', r, s, d, q⟩ := hl
    refine wpIn_mono (q a' w' r d s) ?_
    intro e a2 w2 h2
    cases e with
    | ret => exact h2
    | _ => obtain ⟨_, _, _, _, _, q⟩ := h2; exact q.elim
  | ret => exact hl
  | _ => obtain ⟨_, _, _, _, _, q⟩ := hl; exact q.elim
theorem xc_loop {τ : Type} {c : Code} (pat : τ → List (Nat × Value)) (I : τ → Heap → Prop) (μ : τ → Heap → Nat) (t0 : τ) (hp : PatOk ρ (pat t0)) (h0 : I t0 H)
    (round : ∀ σ t H, I t H → XC C c (xthen (fun ρ' H' => ∃ t', PatOk ρ' (pat t') ∧ I t' H' ∧ μ t' H' < μ t H) Q) (upds σ (pat t)) H) : XC C (.loop c) Q ρ H := by
  intro a w hr hd hs b k cs hro hb hroom
  have key : ∀ n ρ H a w t, Rel C.N ρ a → a.defers = C.D → Sees C.O H w → PatOk ρ (pat t) → I t H → μ t H = n →
      ∃ e a' w', lift C C.D Q e a' w' ∧ ArrivesIn (Machine.fenced C.P C.F) C.P (lone (b.atR a (.code c :: .inLoop c :: k)) cs w) b k cs e a' w' := by
    intro n
    induction n using Nat.strongRecOn with
    | _ n ih =>
      intro ρ H a w t r d s p i hn
      have hbd := round ρ t H i
      rw [upds_of_ok p] at hbd
      obtain ⟨e, a₁, w₁, hl, harr⟩ := hbd a w r d s b (.inLoop c :: k) cs hro hb hroom
      cases e with
      | normal =>
        obtain ⟨ρ₁, H₁, r₁, s₁, d₁, q₁⟩ := hl
        obtain ⟨t', p', i', hlt⟩ := q₁
        obtain ⟨e₂, a₂, w₂, hq₂, harr₂⟩ := ih _ (hn ▸ hlt) ρ₁ H₁ a₁ w₁ t' r₁ d₁ s₁ p' i' rfl
        exact ⟨e₂, a₂, w₂, hq₂, .of_steps (StepsIn.trans harr (.one (fenced_calm hb hroom rfl) stepR_inLoop)) harr₂⟩
      | exit id => exact ⟨.exit id, a₁, w₁, hl, .pass (x := .inLoop c) rfl (fun _ _ => .inl (by simp)) harr⟩
      | goto l => exact ⟨.goto l, a₁, w₁, hl, .pass (x := .inLoop c) rfl (fun _ _ => .inl (by simp)) harr⟩
      | ret => exact ⟨.ret, a₁, w₁, hl, .pass (x := .inLoop c) rfl (fun _ _ => .inl (by simp)) harr⟩
      | panic ch => exact ⟨.panic ch, a₁, w₁, hl, .pass (x := .inLoop c) rfl (fun _ _ => .inl (by simp)) harr⟩
      | outgrown => exact ⟨.outgrown, a₁, w₁, hl, .pass (x := .inLoop c) rfl (fun _ _ => .inl (by simp)) harr⟩
  obtain ⟨e, a', w', hq, harr⟩ := key _ ρ H a w t0 hr hd hs hp h0 rfl
  exact ⟨e, a', w', hq, .of_steps (.one (fenced_calm hb hroom rfl) stepR_loop) harr⟩
theorem xc_cut {τ : Type} {x y : Code} (pat : τ → List (Nat × Value)) (M : τ → Heap → Prop)
    (h1 : XC C x (xthen (fun ρ' H' => ∃ t, PatOk ρ' (pat t) ∧ M t H') Q) ρ H)
    (h2 : ∀ σ t H', M t H' → XC C y Q (upds σ (pat t)) H') : XC C (.seq x y) Q ρ H := by
  refine xc_seq (xc_mono h1 ?_)
  intro e ρ' H' q
  cases e with
  | normal =>
    obtain ⟨t, p, m⟩ := q
    have := h2 ρ' t H' m
    rw [upds_of_ok p] at this
    exact this
  | _ => exact q
theorem xthen_normal {K : Env → Heap → Prop} (h : K ρ H) : xthen K Q .normal ρ H := h
theorem xthen_ret {K : Env → Heap → Prop} (h : Q .ret ρ H) : xthen K Q .ret ρ H := h
theorem xthen_exit {K : Env → Heap → Prop} {id : Nat} (h : Q (.exit id) ρ H) : xthen K Q (.exit id) ρ H := h
theorem xblock_normal {id : Nat} (h : Q .normal ρ H) : xblock id Q .normal ρ H := h
theorem xblock_ret {id : Nat} (h : Q .ret ρ H) : xblock id Q .ret ρ H := h
theorem xblock_same {id : Nat} (h : Q .normal ρ H) : xblock id Q (.exit id) ρ H := by
  simp only [xblock, if_true]; exact h
theorem xblock_other {id id' : Nat} (hne : Nat.beq id' id = false) (h : Q (.exit id') ρ H) : xblock id Q (.exit id') ρ H := by
  simp only [xblock, if_neg (Nat.ne_of_beq_eq_false hne)]; exact h

/-! Operations, one behind the other. -/
theorem xc_region {id : Nat} {l : List Oper} (h : XL C l.toArray l Q ρ H) : XC C (.region id l.toArray false) Q ρ H :=
  fun a w hr hd hs => wpIn_region_lit (h a w hr hd hs)
theorem xl_nil {ops : Array Oper} (h : Q .normal ρ H) : XL C ops [] Q ρ H := fun _ _ hr hd hs => ⟨ρ, H, hr, hs, hd, h⟩
theorem semAt_run {ro : Option Nat} {f : Operand → Value} {o : Oper} {P : Program} {w w' : World} {x : Next} (h : (execOp f o).run P w = .ok x w') (hx : ∀ d, x ≠ .defer d) : (o.semAt ro f).run P w = .ok x w' := by
  rw [Oper.semAt_eq]
  · exact h
  · intro c hc
    have e : execOp f o = (do pure (.defer (← resolve f c o.type))) := by unfold execOp; rw [hc]
    rw [e] at h
    simp only [Sem.run_bind] at h
    cases hr : (resolve f c o.type).run P w with
    | ok d w2 => rw [hr] at h; simp only [Result.andThen_ok, Sem.run_pure, Result.ok.injEq] at h; exact hx _ h.1.symm
    | halt y w2 => rw [hr] at h; simp [Result.andThen] at h

/-- What a guard says: the operation is wanted, or not. -/
def wantedE (ops : Array Oper) (ρ : Env) (o : Oper) : Bool :=
  match o.guard with
  | none => true
  | some (j, want) =>
    match (ops[j]?).bind (·.dst) with
    | some d => match ρ d with
      | .bool b => bif b then want else !want
      | _ => false
    | none => false
theorem wantedE_eq {N : Nat} {ops : Array Oper} {a : Act} {o : Oper} (hr : Rel N ρ a) : Region.wanted o (yielded ops a.tmps) = wantedE ops ρ o := by
  unfold Region.wanted wantedE
  split
  · simp_all
  · rename_i j want hg
    simp only [hg]
    unfold yielded
    cases hd : (ops[j]?).bind (·.dst) with
    | none => simp
    | some d =>
      have h := hr.2.2 d
      simp only [Option.bind_some]
      simp only [Array.getD_eq_getD_getElem?] at h
      cases ht : a.tmps[d]? with
      | none =>
        rw [ht] at h
        simp only [Option.getD_none] at h
        rw [← h]; simp [undef]
      | some v =>
        rw [ht] at h
        simp only [Option.getD_some] at h
        rw [← h]
        cases v <;> simp
        rename_i b
        cases b <;> cases want <;> rfl
/-- An operation that leaves memory alone: its value. -/
def LV (C : Cx) (o : Oper) (ρ : Env) (H : Heap) (v : Value) : Prop :=
  ∀ w, Sees C.O H w → (execOp (ev ρ) o).run C.P w = .ok (.value v) w
/-- One that does not even look at memory. -/
def PV (C : Cx) (o : Oper) (ρ : Env) (v : Value) : Prop := ∀ w, (execOp (ev ρ) o).run C.P w = .ok (.value v) w
theorem PV.lv {o : Oper} {v : Value} (h : PV C o ρ v) : LV C o ρ H v := fun w _ => h w

theorem xl_light {ops : Array Oper} {o : Oper} {rest : List Oper} {v : Value} {d : Nat} (hw : wantedE ops ρ o = true) (hd : o.dst = some d) (hN : Nat.blt d C.N = true)
    (h : LV C o ρ H v) (k : XL C ops rest Q (upd ρ d v) H) : XL C ops (o :: rest) Q ρ H := by
  intro a w hr hdf hs
  have hN' : d < C.N := blt_lt hN
  unfold wpListIn
  rw [if_pos (by rw [wantedE_eq hr]; exact hw)]
  refine ⟨fun _ _ => trivial, ?_⟩
  rw [hr.eval, semAt_run (h w hs) (fun _ => by simp), Oper.uponIn_value, hd]
  exact k _ w (hr.put hN' v) hdf hs
theorem xl_pure {ops : Array Oper} {o : Oper} {rest : List Oper} {v : Value} {d : Nat} (hw : wantedE ops ρ o = true) (hd : o.dst = some d) (hN : Nat.blt d C.N = true)
    (h : PV C o ρ v) (k : XL C ops rest Q (upd ρ d v) H) : XL C ops (o :: rest) Q ρ H := xl_light hw hd hN h.lv k
/-- A test: both ways. -/
theorem xl_dec {ops : Array Oper} {o : Oper} {rest : List Oper} {p : Prop} [Decidable p] {d : Nat} (hw : wantedE ops ρ o = true) (hd : o.dst = some d) (hN : Nat.blt d C.N = true)
    (h : PV C o ρ (.bool (decide p))) (k : p → XL C ops rest Q (upd ρ d (.bool true)) H) (k' : ¬ p → XL C ops rest Q (upd ρ d (.bool false)) H) : XL C ops (o :: rest) Q ρ H := by
  refine xl_light hw hd hN h.lv ?_
  by_cases hp : p
  · rw [decide_eq_true hp]; exact k hp
  · rw [decide_eq_false hp]; exact k' hp
theorem xl_ndec {ops : Array Oper} {o : Oper} {rest : List Oper} {p : Prop} [Decidable p] {d : Nat} (hw : wantedE ops ρ o = true) (hd : o.dst = some d) (hN : Nat.blt d C.N = true)
    (h : PV C o ρ (.bool (!decide p))) (k : p → XL C ops rest Q (upd ρ d (.bool false)) H) (k' : ¬ p → XL C ops rest Q (upd ρ d (.bool true)) H) : XL C ops (o :: rest) Q ρ H := by
  refine xl_light hw hd hN h.lv ?_
  by_cases hp : p
  · rw [decide_eq_true hp]; exact k hp
  · rw [decide_eq_false hp]; exact k' hp
theorem xl_skip {ops : Array Oper} {o : Oper} {rest : List Oper} {d : Nat} (hw : wantedE ops ρ o = false) (hd : o.dst = some d) (hN : Nat.blt d C.N = true)
    (k : XL C ops rest Q (upd ρ d undef) H) : XL C ops (o :: rest) Q ρ H := by
  intro a w hr hdf hs
  have hN' : d < C.N := blt_lt hN
  unfold wpListIn
  rw [if_neg (by rw [wantedE_eq hr, hw]; simp), hd]
  exact ⟨fun _ _ => trivial, k _ w (hr.put hN' undef) hdf hs⟩
/-- A store that its guard shuts out writes no slot. -/
theorem xl_skip0 {ops : Array Oper} {o : Oper} {rest : List Oper} (hw : wantedE ops ρ o = false) (hd : o.dst = none)
    (k : XL C ops rest Q ρ H) : XL C ops (o :: rest) Q ρ H := by
  intro a w hr hdf hs
  unfold wpListIn
  rw [if_neg (by rw [wantedE_eq hr, hw]; simp), hd]
  exact ⟨fun _ _ => trivial, k _ w hr hdf hs⟩

/-! Calls. -/
/-- The function f, at these arguments and this memory, returns; the tape, the outside and the output stay. -/
def FnC (P : Program) (f : FuncId) (A : Array Value) (O : Outer) (H : Heap) (R : Value → Heap → Prop) : Prop :=
  ∀ w, Sees O H w → Calls P f A w fun e w' => ∃ v H', e = .returned v ∧ Sees O H' w' ∧ R v H'
theorem FnC.mono {P : Program} {f : FuncId} {A : Array Value} {O : Outer} {R R' : Value → Heap → Prop} (h : FnC P f A O H R) (hr : ∀ v H', R v H' → R' v H') : FnC P f A O H R' :=
  fun w hs => (h w hs).mono fun _ _ ⟨v, H', e, s, r⟩ => ⟨v, H', e, s, hr _ _ r⟩
/-- An operation that makes, writes or calls: what it comes to. -/
def HV (C : Cx) (o : Oper) (ρ : Env) (H : Heap) (R : Value → Heap → Prop) : Prop :=
  ∀ w, Sees C.O H w → (∃ v w', (execOp (ev ρ) o).run C.P w = .ok (.value v) w' ∧ ∃ H', Sees C.O H' w' ∧ R v H') ∨
    (∃ f A, (execOp (ev ρ) o).run C.P w = .ok (.enter f A) w ∧ FnC C.P f A C.O H R) ∨
    (∃ w' H', (execOp (ev ρ) o).run C.P w = .ok .skip w' ∧ Sees C.O H' w' ∧ R undef H')
theorem HV.wp {o : Oper} {a : Act} {w : World} {R : Value → Heap → Prop} {K : Act → World → Prop} {Q' : Exit → Act → World → Prop} (h : HV C o ρ H R) (hr : Rel C.N ρ a) (hs : Sees C.O H w)
    (k : ∀ v H' w', Sees C.O H' w' → R v H' → K (a.put o.dst v) w') : o.wp C.P a w K Q' := by
  unfold Oper.wp
  rw [hr.eval]
  rcases h w hs with ⟨v, w', he, H', s, r⟩ | ⟨f, A, he, hf⟩ | ⟨w', H', he, s, r⟩
  · rw [he, Oper.upon_value]; exact k v H' w' s r
  · rw [he, Oper.upon_enter]
    refine (hf w hs).mono ?_
    rintro e w' ⟨v, H', rfl, s, r⟩
    exact k v H' w' s r
  · rw [he, Oper.upon_skip]; exact k undef H' w' s r
theorem HV.wpI {o : Oper} {a : Act} {w : World} {R : Value → Heap → Prop} {K : Act → World → Prop} {Q' : Exit → Act → World → Prop} (h : HV C o ρ H R) (hr : Rel C.N ρ a) (hs : Sees C.O H w)
    (k : ∀ v H' w', Sees C.O H' w' → R v H' → K (a.put o.dst v) w') : o.wpIn C.F 0 C.P a w K Q' := by
  refine ⟨fun _ _ => trivial, ?_⟩
  rw [hr.eval]
  rcases h w hs with ⟨v, w', he, H', s, r⟩ | ⟨f, A, he, hf⟩ | ⟨w', H', he, s, r⟩
  · rw [semAt_run he (fun _ => by simp), Oper.uponIn_value]; exact k v H' w' s r
  · rw [semAt_run he (fun _ => by simp), Oper.uponIn_enter]
    refine ⟨fun hh => (by cases hh), ?_⟩
    have hc := (callsIn_wide (n := 0)).2 (hf w hs)
    refine (CallsIn.mono hc ?_ : CallsIn Fence.wide 0 C.P f A w _)
    rintro e w' ⟨v, H', rfl, s, r⟩
    exact k v H' w' s r
  · rw [semAt_run he (fun _ => by simp), Oper.uponIn_skip]; exact k undef H' w' s r
theorem xl_heavy {ops : Array Oper} {o : Oper} {rest : List Oper} {d : Nat} {R : Value → Heap → Prop} (hw : wantedE ops ρ o = true) (hd : o.dst = some d) (hN : Nat.blt d C.N = true)
    (h : HV C o ρ H R) (k : ∀ v H', R v H' → XL C ops rest Q (upd ρ d v) H') : XL C ops (o :: rest) Q ρ H := by
  intro a w hr hdf hs
  have hN' : d < C.N := blt_lt hN
  unfold wpListIn
  rw [if_pos (by rw [wantedE_eq hr]; exact hw)]
  refine h.wpI hr hs ?_
  intro v H' w' s r
  rw [hd]
  exact k v H' r _ w' (hr.put hN' v) hdf s
theorem xl_store {ops : Array Oper} {o : Oper} {rest : List Oper} {R : Value → Heap → Prop} (hw : wantedE ops ρ o = true) (hd : o.dst = none)
    (h : HV C o ρ H R) (k : ∀ v H', R v H' → XL C ops rest Q ρ H') : XL C ops (o :: rest) Q ρ H := by
  intro a w hr hdf hs
  unfold wpListIn
  rw [if_pos (by rw [wantedE_eq hr]; exact hw)]
  refine h.wpI hr hs ?_
  intro v H' w' s r
  rw [hd]
  exact k v H' r a w' hr hdf s
/-! Calls of yield: a round of the loop. -/
/-- yield of loop l, at these values and this memory: its round ends, with a bool. -/
def Yld (P : Program) (O : Outer) (l : Nat) (xs : List Value) (H : Heap) (R : Bool → Heap → Prop) : Prop :=
  ∀ w, Sees O H w → YieldAt Fence.wide 0 P l xs.toArray w fun e w' => ∃ b H', e = .returned (.bool b) ∧ Sees O H' w' ∧ R b H'
def HY (C : Cx) (o : Oper) (ρ : Env) (H : Heap) (R : Value → Heap → Prop) : Prop :=
  ∀ w, Sees C.O H w → ∃ l f tmps as body, (execOp (ev ρ) o).run C.P w = .ok (.round l f tmps as body) w ∧ RoundIn Fence.wide 0 C.P l f tmps as body w fun e w' => ∃ v H', e = .returned v ∧ Sees C.O H' w' ∧ R v H'
theorem hy_yield {o : Oper} {f : Operand} {as : Array Operand} {ts : Array TypeId} {l : Nat} {A : List Value} {R : Bool → Heap → Prop} (ho : o.op = .call { callee := .value f, args := as, argTypes := ts })
    (hf : ev ρ f = .func (.yield l) #[] #[]) (hA : as.toList.map (ev ρ) = A) (h : Yld C.P C.O l A H R) : HY C o ρ H (fun v H' => ∃ b, v = .bool b ∧ R b H') := fun w hs => by
  obtain ⟨f', tmps, asg, body, hy, hR⟩ := h w hs
  have hA' : as.map (ev ρ) = A.toArray := by rw [← hA]; apply Array.ext'; simp
  refine ⟨l, f', tmps, asg, body, ?_, hR.mono ?_⟩
  · simp only [execOp, ho, resolve, hf, Deferred.ofValue, invoke, Sem.run_bind, Sem.run_pure, Result.andThen_ok, hA', Array.empty_append]
    simpa using hy
  · rintro e w' ⟨b, H', rfl, s, r⟩
    exact ⟨_, H', rfl, s, b, rfl, r⟩
theorem xl_yield {ops : Array Oper} {o : Oper} {rest : List Oper} {d : Nat} {R : Value → Heap → Prop} (hw : wantedE ops ρ o = true) (hd : o.dst = some d) (hN : Nat.blt d C.N = true)
    (h : HY C o ρ H R) (k : ∀ v H', R v H' → XL C ops rest Q (upd ρ d v) H') : XL C ops (o :: rest) Q ρ H := by
  intro a w hr hdf hs
  have hN' : d < C.N := blt_lt hN
  unfold wpListIn
  rw [if_pos (by rw [wantedE_eq hr]; exact hw)]
  refine ⟨fun _ _ => trivial, ?_⟩
  rw [hr.eval]
  obtain ⟨l, f, tmps, as, body, he, hR⟩ := h w hs
  rw [semAt_run he (fun _ => by simp), Oper.uponIn_round]
  refine ⟨fun hh => (by cases hh), ?_⟩
  refine (RoundIn.mono hR ?_ : RoundIn Fence.wide 0 C.P l f tmps as body w _)
  rintro e w' ⟨v, H', rfl, s, r⟩
  show wpListIn _ _ _ _ _ _ (a.put o.dst v) w'
  rw [hd]
  exact k v H' r _ w' (hr.put hN' v) hdf s

/-! Functions. -/
def FnRes (P : Program) (fn : Func) (ρ : Env) (H : Heap) (v : Value) : Prop :=
  ∀ N O a w, Rel N ρ a → Sees O H w → (results fn a.tmps).run P w = .ok v w
def fin (P : Program) (fn : Func) (R : Value → Heap → Prop) : XPost
  | .normal, ρ, H | .ret, ρ, H => ∃ v, FnRes P fn ρ H v ∧ R v H
  | _, _, _ => False
def args0 (A : List Value) : Env := fun i => A.getD i undef
theorem fn_enter {P : Program} {f : FuncId} {fn : Func} {c : Code} {A : List Value} {O : Outer} {R : Value → Heap → Prop} (hf : P.funcs[f]? = some fn) (hb : fn.body = some c) (hn : Nat.ble A.length fn.ntmps = true)
    (h : XC { P := P, N := fn.ntmps, O := O } c (fin P fn R) (args0 A) H) : FnC P f A.toArray O H R := by
  intro w hs
  refine callsIn_wide.1 (callsIn_of_wp_marks (n := 0) hf hb trivial (wpIn_mono (h { tmps := A.toArray ++ Array.replicate (fn.ntmps - A.toArray.size) undef, defers := [] } w ⟨trivial, ?_, ?_⟩ rfl hs) ?_))
  rotate_left 2
  · have key : ∀ (ρ' : Env) (H' : Heap) (a : Act) (w' : World), Rel fn.ntmps ρ' a → Sees O H' w' → a.defers = [] → (∃ v, FnRes P fn ρ' H' v ∧ R v H') →
        LeavesInM Fence.wide 0 P fn a.tmps (fun e w' => ∃ v H', e = .returned v ∧ Sees O H' w' ∧ R v H') a.defers .returning w' := by
      rintro ρ' H' a w' r s hd ⟨v, h1, h2⟩
      rw [hd]
      exact ⟨v, h1 _ _ _ _ r s, v, H', rfl, s, h2⟩
    intro e a w' hl
    cases e with
    | normal => obtain ⟨ρ', H', r, s, d, q⟩ := hl; exact key ρ' H' a w' r s d q
    | ret =>
      obtain ⟨ρ', H', r, s, ⟨d, q⟩ | ⟨k, d, hk, q⟩⟩ := hl
      · exact key ρ' H' a w' r s d q
      · obtain ⟨v, h1, h2⟩ := q
        have hk' : w'.heap[k]? = some (.deferred (some [])) := by rw [s.1]; exact hk
        have s' : Sees O (H'.setIfInBounds k (.deferred none)) (w'.putObj k (.deferred none)) := ⟨by rw [← s.1]; rfl, s.2.1, s.2.2.1, s.2.2.2⟩
        show LeavesInM Fence.wide 0 P fn a.tmps _ a.defers .returning w'
        rw [d]
        exact ⟨by simp, .inl ⟨k, _, rfl, run_takeDeferred hk', v, h1 _ _ _ _ r s', v, _, rfl, s', h2⟩⟩
    | exit id => obtain ⟨_, _, _, _, _, q⟩ := hl; exact q.elim
    | goto id => obtain ⟨_, _, _, _, _, q⟩ := hl; exact q.elim
    | panic c => obtain ⟨_, _, _, _, _, q⟩ := hl; exact q.elim
    | outgrown => obtain ⟨_, _, _, _, _, q⟩ := hl; exact q.elim
  · have := Nat.le_of_ble_eq_true hn
    simp; omega
  · intro i
    simp only [args0, List.getD_eq_getElem?_getD, Array.getD_eq_getD_getElem?, Array.getElem?_append, List.size_toArray, List.getElem?_toArray]
    split
    · rfl
    · rename_i hlt
      rw [Array.getElem?_replicate, List.getElem?_eq_none (by omega)]
      split <;> rfl
theorem res0 {P : Program} {fn : Func} (h : fn.results = #[]) : FnRes P fn ρ H (.tuple #[]) := fun _ _ _ _ _ _ => results_none h _ _ _
theorem res1 {P : Program} {fn : Func} {t : Nat} {v : Value} (h : fn.results = #[.tmp t]) (hv : ρ t = v) : FnRes P fn ρ H v := fun _ _ a w hr _ => by rw [results_tmp h, hr.2.2 t, hv]
theorem res2 {P : Program} {fn : Func} {t u : Nat} {v x : Value} (h : fn.results = #[.tmp t, .tmp u]) (hv : ρ t = v) (hx : ρ u = x) : FnRes P fn ρ H (.tuple #[v, x]) := fun _ _ a w hr _ => by rw [results_tmp2 h, hr.2.2 t, hr.2.2 u, hv, hx]
theorem res3 {P : Program} {fn : Func} {t u s : Nat} {v x y : Value} (h : fn.results = #[.tmp t, .tmp u, .tmp s]) (hv : ρ t = v) (hx : ρ u = x) (hy : ρ s = y) : FnRes P fn ρ H (.tuple #[v, x, y]) := fun _ _ a w hr _ => by
  have e1 := hr.2.2 t; have e2 := hr.2.2 u; have e3 := hr.2.2 s
  simp [results, h, -Array.getD_eq_getD_getElem?, e1, e2, e3, hv, hx, hy]
theorem fin_ret {P : Program} {fn : Func} {R : Value → Heap → Prop} {v : Value} (h : FnRes P fn ρ H v) (hR : R v H) : fin P fn R .ret ρ H := ⟨v, h, hR⟩
theorem fin_normal {P : Program} {fn : Func} {R : Value → Heap → Prop} {v : Value} (h : FnRes P fn ρ H v) (hR : R v H) : fin P fn R .normal ρ H := ⟨v, h, hR⟩
end control
end Go.XG
