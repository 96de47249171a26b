/-
  XG, part d: a region that draws its order: what is ready and light may be taken at once; what it read must still be there while it waits.
-/
import Derived.Test.YtjlhjjjhblcokaaXc
import Derived.Orders
namespace Go
section
variable {P : Program} {ops : Array Oper} {Q : Exit → Act → World → Prop} {md : Region.Mode}
/-- Operation j waits for operation i. -/
def XG.waits (md : Region.Mode) (ops : Array Oper) (j i : Nat) : Bool :=
  match ops[j]? with
  | some o => o.after.any fun e => Region.binds md e && e.on == i
  | none => false
/-- In each world of a class, operation o leaves v in its slot and the world as it was. -/
def XG.YI (P : Program) (ops : Array Oper) (I : World → Prop) (o : Oper) (v : Value) (a : Act) : Prop :=
  (Region.wanted o (yielded ops a.tmps) = true ∧ ∀ w, I w → (execOp a.eval o).run P w = .ok (.value v) w) ∨
  (Region.wanted o (yielded ops a.tmps) = false ∧ v = undef)
theorem XG.YI.wpOp {I : World → Prop} {i : Nat} {o : Oper} {v : Value} {a : Act} (hi : ops[i]? = some o) (hy : XG.YI P ops I o v a) {K : Act → World → Prop} {w : World} (hw : I w) (h : K (a.put o.dst v) w) : wpOp P ops Q i K a w := by
  unfold Go.wpOp
  simp only [hi]
  rcases hy with ⟨hg, hv⟩ | ⟨hg, rfl⟩
  · simp only [hg, if_true, Oper.wp, hv w hw, Oper.upon]; exact .inl h
  · simp only [hg, Bool.false_eq_true, if_false]; exact h
theorem XG.YI.of_same {I : World → Prop} {o : Oper} {v : Value} {a a' : Act} (hy : XG.YI P ops I o v a) (he : execOp a'.eval o = execOp a.eval o)
    (hw : Region.wanted o (yielded ops a'.tmps) = Region.wanted o (yielded ops a.tmps)) : XG.YI P ops I o v a' := by
  unfold XG.YI at *
  rw [he, hw]
  exact hy
theorem XG.wpOp_put {I : World → Prop} {j : Nat} {oi oj : Oper} {v : Value} (hj : ops[j]? = some oj) (hap : oi.apart ops oj = true)
    (hsi : ∀ cs b, oi.op ≠ .select cs b) (hsj : ∀ cs b, oj.op ≠ .select cs b)
    (hQ : ∀ c a w, Q (.panic c) (a.put oi.dst v) w → Q (.panic c) a w) {K : Act → World → Prop} {a : Act} {w : World}
    (hy : XG.YI P ops I oi v a) (h : wpOp P ops Q j K (a.put oi.dst v) w) :
    wpOp P ops Q j (fun a' w' => XG.YI P ops I oi v a' ∧ K (a'.put oi.dst v) w') a w := by
  obtain ⟨h1, h2, h3⟩ := Oper.apart_spec hap
  have keep : ∀ (a : Act), XG.YI P ops I oi v a → ∀ u, XG.YI P ops I oi v (a.put oj.dst u) := fun a hy u =>
    hy.of_same (execOp_put oi hsi a oj.dst u h3) (wanted_put oi a oj.dst u h3)
  have keepD : ∀ d, XG.YI P ops I oi v { a with defers := d :: a.defers } := fun d => hy.of_same rfl rfl
  unfold wpOp at *
  simp only [hj] at *
  rw [wanted_put oj a oi.dst v h1] at h
  split
  · rename_i hw
    simp only [hw, if_true] at h
    rcases h with h | ⟨hasks, hlets⟩
    case inr => exact .inr ⟨by unfold Oper.asks at *; rw [execOp_put oj hsj a oi.dst v h1] at hasks; exact hasks, hlets⟩
    refine .inl ?_
    unfold Oper.wp at *
    rw [execOp_put oj hsj a oi.dst v h1] at h
    generalize (execOp a.eval oj).run P w = r at *
    cases r with
    | ok n w' =>
      cases n <;> simp only [Oper.upon] at h ⊢
      case value u => exact ⟨keep a hy u, by rw [← Act.put_comm a v u h2]; exact h⟩
      case skip => exact ⟨keep a hy _, by rw [← Act.put_comm a v undef h2]; exact h⟩
      case defer d =>
        refine ⟨keep _ (keepD d) _, ?_⟩
        rw [← Act.put_comm _ v undef h2, ← Act.put_defers]
        exact h
      case enter f args =>
        refine Calls.mono h fun e w'' he => ?_
        cases e with
        | returned u => exact ⟨keep a hy u, by rw [← Act.put_comm a v u h2]; exact he⟩
        | panicked c => exact hQ _ _ _ he
        | outgrown => exact he
      case row row args => exact Rows.mono h fun u w'' he => ⟨keep a hy u, by rw [← Act.put_comm a v u h2]; exact he⟩
    | halt x w' =>
      cases x <;> simp only [Oper.upon] at h ⊢
      case panic u => exact hQ _ _ _ h
  · rename_i hw
    simp only [hw] at h
    exact ⟨keep a hy _, by rw [← Act.put_comm a v undef h2]; exact h⟩

abbrev XG.Pend := List (Nat × (World → Prop))
def XG.Pend.left (md : Region.Mode) (ops : Array Oper) (j : Nat) (pend : XG.Pend) : XG.Pend := pend.filter fun p => !XG.waits md ops j p.1
theorem XG.mem_left {j : Nat} {pend : XG.Pend} {p : Nat × (World → Prop)} (h : p ∈ pend.left md ops j) : p ∈ pend := by
  simp only [XG.Pend.left, List.mem_filter] at h
  exact h.1
/-- Whatever order is picked from here on; what has been taken ahead must still be so, as long as nothing that waits for it has come. -/
def XG.wpP (P : Program) (md : Region.Mode) (ops : Array Oper) (Q : Exit → Act → World → Prop) : Nat → XG.Pend → Array Bool → Act → World → Prop
  | 0, _, listed, a, w => Region.ready md ops listed = [] ∧ Q .normal a w
  | fuel + 1, pend, listed, a, w =>
    (Region.ready md ops listed = [] → Q .normal a w) ∧
    ∀ j ∈ Region.ready md ops listed, wpOp P ops Q j (fun a' w' => (∀ p ∈ pend.left md ops j, p.2 w') ∧ XG.wpP P md ops Q fuel (pend.left md ops j) (listed.setIfInBounds j true) a' w') a w
theorem XG.wpP_sub : ∀ (fuel : Nat) (pend pend' : XG.Pend) (listed : Array Bool) (a : Act) (w : World), (∀ p ∈ pend', p ∈ pend) → XG.wpP P md ops Q fuel pend listed a w → XG.wpP P md ops Q fuel pend' listed a w
  | 0, _, _, _, _, _, _, h => h
  | fuel + 1, pend, pend', listed, a, w, hs, h => by
    have hs' : ∀ j, ∀ p ∈ XG.Pend.left md ops j pend', p ∈ XG.Pend.left md ops j pend := fun j p hp => by
      simp only [XG.Pend.left, List.mem_filter] at hp ⊢
      exact ⟨hs p hp.1, hp.2⟩
    exact ⟨h.1, fun j hj => wpOp_mono (fun a' w' ⟨h1, h2⟩ => ⟨fun p hp => h1 p (hs' j p hp), XG.wpP_sub fuel _ _ _ a' w' (hs' j) h2⟩) (h.2 j hj)⟩
theorem XG.wpP_true (i : Nat) : ∀ (fuel : Nat) (pend : XG.Pend) (listed : Array Bool) (a : Act) (w : World), XG.wpP P md ops Q fuel pend listed a w → XG.wpP P md ops Q fuel ((i, fun _ => True) :: pend) listed a w
  | 0, _, _, _, _, h => h
  | fuel + 1, pend, listed, a, w, h => by
    refine ⟨h.1, fun j hj => wpOp_mono (fun a' w' ⟨h1, h2⟩ => ?_) (h.2 j hj)⟩
    cases hb : XG.waits md ops j i with
    | true =>
      have e : XG.Pend.left md ops j ((i, fun _ => True) :: pend) = XG.Pend.left md ops j pend := by simp [XG.Pend.left, hb]
      rw [e]; exact ⟨h1, h2⟩
    | false =>
      have e : XG.Pend.left md ops j ((i, fun _ => True) :: pend) = (i, fun _ => True) :: XG.Pend.left md ops j pend := by simp [XG.Pend.left, hb]
      rw [e]
      exact ⟨fun p hp => by
        rcases List.mem_cons.1 hp with rfl | hp
        · trivial
        · exact h1 p hp, XG.wpP_true i fuel _ _ a' w' h2⟩
theorem XG.wpAny_of_wpP : ∀ (fuel : Nat) (pend : XG.Pend) (listed : Array Bool) (a : Act) (w : World), XG.wpP P md ops Q fuel pend listed a w → wpAny P md ops Q fuel listed a w
  | 0, _, _, _, _, h => h
  | fuel + 1, _, _, _, _, h => ⟨h.1, fun j hj => wpOp_mono (fun a' w' ⟨_, h2⟩ => XG.wpAny_of_wpP fuel _ _ a' w' h2) (h.2 j hj)⟩
theorem XG.wpP_first {i : Nat} {oi : Oper} {v : Value} {I : World → Prop} (hi : ops[i]? = some oi) (hsel : ∀ (j : Nat) (o : Oper) cs b, ops[j]? = some o → o.op ≠ .select cs b)
    (hQ : ∀ c a w, Q (.panic c) (a.put oi.dst v) w → Q (.panic c) a w) :
    ∀ (fuel : Nat) (pend : XG.Pend) (listed : Array Bool) (a : Act) (w : World),
      (∀ j oj, ops[j]? = some oj → j ≠ i → listed.getD j true = false → (∀ e ∈ oj.after, Region.binds md e = true → e.on ≠ i) → oi.apart ops oj = true) →
      i ∈ Region.ready md ops listed → XG.YI P ops I oi v a → I w → (∀ p ∈ pend, p.2 w) →
      XG.wpP P md ops Q fuel ((i, I) :: pend) (listed.setIfInBounds i true) (a.put oi.dst v) w → XG.wpP P md ops Q (fuel + 1) pend listed a w := by
  intro fuel
  induction fuel with
  | zero =>
    intro pend listed a w _ hr hy hI hp H
    refine ⟨fun h => (by rw [h] at hr; cases hr), fun j hj => ?_⟩
    by_cases hji : j = i
    · subst hji
      exact hy.wpOp hi hI ⟨fun p hp' => hp p (XG.mem_left hp'), H⟩
    · have := ready_mono hj hji
      rw [H.1] at this
      cases this
  | succ fuel ih =>
    intro pend listed a w hfree hr hy hI hp H
    refine ⟨fun h => (by rw [h] at hr; cases hr), fun j hj => ?_⟩
    by_cases hji : j = i
    · subst hji
      exact hy.wpOp hi hI ⟨fun p hp' => hp p (XG.mem_left hp'), XG.wpP_sub _ _ _ _ _ _ (fun p hp' => List.mem_cons_of_mem _ (XG.mem_left hp')) H⟩
    · have h1 := H.2 j (ready_mono hj hji)
      obtain ⟨hjun, oj, hoj, hall⟩ := mem_ready.1 hj
      have hnot : ∀ e ∈ oj.after, Region.binds md e = true → e.on ≠ i := fun e he hb heq => by
        have h1 := hall e he hb
        have h0 := (mem_ready.1 hr).1
        rw [heq] at h1
        rcases Nat.lt_or_ge i listed.size with h' | h'
        · simp [h'] at h0 h1; rw [h0] at h1; cases h1
        · simp [Array.getElem?_eq_none h'] at h1
      have hnw : XG.waits md ops j i = false := by
        unfold XG.waits
        simp only [hoj]
        cases hc : oj.after.any fun e => Region.binds md e && e.on == i with
        | false => rfl
        | true =>
          obtain ⟨e, he, hb⟩ := Array.any_eq_true'.1 hc
          simp only [Bool.and_eq_true, beq_iff_eq] at hb
          exact absurd hb.2 (hnot e he hb.1)
      have h2 := XG.wpOp_put hoj (hfree j oj hoj hji hjun hnot) (fun cs b => hsel i oi cs b hi) (fun cs b => hsel j oj cs b hoj) hQ hy h1
      have hfree' : ∀ k ok, ops[k]? = some ok → k ≠ i → (listed.setIfInBounds j true).getD k true = false →
          (∀ e ∈ ok.after, Region.binds md e = true → e.on ≠ i) → oi.apart ops ok = true := fun k ok hk hki hun hno => by
        refine hfree k ok hk hki ?_ hno
        by_cases hjk : j = k
        · subst hjk; exact hjun
        · rw [getD_set_ne true hjk] at hun; exact hun
      have hleft : XG.Pend.left md ops j ((i, I) :: pend) = (i, I) :: XG.Pend.left md ops j pend := by
        simp [XG.Pend.left, hnw]
      refine wpOp_mono (fun a' w' h3 => ?_) h2
      obtain ⟨hy', hp', h4⟩ := h3
      rw [hleft] at hp' h4
      refine ⟨fun p hp0 => hp' p (List.mem_cons_of_mem _ hp0), ih _ (listed.setIfInBounds j true) a' w' hfree' (ready_mono hr (Ne.symm hji)) hy' (hp' (i, I) (List.mem_cons_self ..)) (fun p hp0 => hp' p (List.mem_cons_of_mem _ hp0)) ?_⟩
      rw [Array.setIfInBounds_comm _ _ hji]
      exact h4
end

namespace XG
abbrev PendH := List (Nat × (Heap → Prop))
def PendH.left (ops : Array Oper) (j : Nat) (pend : PendH) : PendH := pend.filter fun p => !waits .any ops j p.1
def PendH.up (O : Outer) (pend : PendH) : Pend := pend.map fun p => (p.1, fun w => ∃ H, Sees O H w ∧ p.2 H)
theorem PendH.up_left (O : Outer) (ops : Array Oper) (j : Nat) (pend : PendH) : (pend.left ops j).up O = (pend.up O).left .any ops j := by
  unfold PendH.left PendH.up Pend.left
  rw [List.filter_map]
  rfl
def PendH.ok (pend : PendH) (H : Heap) : Prop := ∀ p ∈ pend, p.2 H
/-- The panic's post is False wherever a call of ours goes. -/
def NoPanic (Q : XPost) : Prop := ∀ c ρ H, ¬ Q (.panic c) ρ H
theorem np_fin {P : Program} {fn : Func} {R : Value → Heap → Prop} : NoPanic (fin P fn R) := fun _ _ _ h => h
theorem np_then {K : Env → Heap → Prop} {Q : XPost} (h : NoPanic Q) : NoPanic (xthen K Q) := fun c ρ H q => h c ρ H q
theorem np_block {id : Nat} {Q : XPost} (h : NoPanic Q) : NoPanic (xblock id Q) := fun c ρ H q => h c ρ H q
/-- A region that draws: whatever order is picked from here on. -/
def XP (C : Cx) (ops : Array Oper) (Q : XPost) (fuel : Nat) (pend : PendH) (listed : Array Bool) (ρ : Env) (H : Heap) : Prop :=
  NoPanic Q → Region.noSelect ops = true → pend.ok H → ∀ a w, Rel C.N ρ a → a.defers = C.D → Sees C.O H w → wpP C.P .any ops (lift C C.D Q) fuel (pend.up C.O) listed a w
section
variable {C : Cx} {Q : XPost} {ρ : Env} {H : Heap} {ops : Array Oper} {pend : PendH} {listed : Array Bool} {fuel : Nat}
theorem xp_start {id : Nat} {l : List Oper} (hm : C.P.follows .mixedOrders = true) (hQ : NoPanic Q) (hsel : Region.noSelect l.toArray = true) (h : XP C l.toArray Q l.length [] (Array.replicate l.length false) ρ H) (hR : C.r = none := by rfl) : XC C (.region id l.toArray true) Q ρ H := by
  intro a w hr hd hs
  have hF : C.F = Fence.wide := by unfold Cx.F; rw [hR]; rfl
  rw [hF]
  refine wpIn_wide.2 (wp_region_any hm (wpAny_of_wpP _ [] _ _ _ ?_))
  have := h hQ hsel (fun p hp => by cases hp) a { w with drawn := w.drawn + 1 } hr hd ⟨hs.1, hs.2.1, hs.2.2.1, hs.2.2.2⟩
  simpa [PendH.up] using this
theorem xp_done (hr : Region.ready .any ops listed = []) (h : Q .normal ρ H) : XP C ops Q fuel pend listed ρ H := fun _ _ _ _ _ r d s => by
  cases fuel with
  | zero => exact ⟨hr, _, _, r, s, d, h⟩
  | succ n => exact ⟨fun _ => ⟨_, _, r, s, d, h⟩, by rw [hr]; intro j hj; cases hj⟩
theorem noPanic_lift {D : List Deferred} (h : NoPanic Q) (c : List PanicEntry) (a a' : Act) (w : World) : lift C D Q (.panic c) a w → lift C D Q (.panic c) a' w := by
  rintro ⟨ρ, H, _, _, _, q⟩
  exact (h c ρ H q).elim
theorem pend_world {O : Outer} {w : World} (hp : pend.ok H) (s : Sees O H w) : ∀ p ∈ pend.up O, p.2 w := by
  intro p hp'
  simp only [PendH.up, List.mem_map] at hp'
  obtain ⟨q, hq, rfl⟩ := hp'
  exact ⟨H, s, hp q hq⟩
theorem xp_light {i d : Nat} {o : Oper} {v : Value} (hi : ops[i]? = some o) (hr : (Region.ready .any ops listed).contains i = true) (hf : Region.free .any ops listed i = true)
    (hw : wantedE ops ρ o = true) (hd : o.dst = some d) (hN : Nat.blt d C.N = true) (h : LV C o ρ H v)
    (k : XP C ops Q fuel ((i, fun H' => LV C o ρ H' v) :: pend) (listed.setIfInBounds i true) (upd ρ d v) H) : XP C ops Q (fuel + 1) pend listed ρ H := by
  intro hQ hsel hp a w r dd s
  have hk := k hQ hsel (fun p hp' => by
    rcases List.mem_cons.1 hp' with rfl | hp'
    · exact h
    · exact hp p hp') (a.put (some d) v) w (r.put (blt_lt hN) v) dd s
  refine wpP_first (I := fun w => ∃ H', Sees C.O H' w ∧ LV C o ρ H' v) hi (Region.noSelect_spec hsel) (fun c a w => noPanic_lift hQ c _ _ w) fuel _ listed a w (Region.free_spec hi hf) (by simpa using hr) (.inl ⟨by rw [wantedE_eq r]; exact hw, ?_⟩) ⟨H, s, h⟩ (pend_world hp s) (by rw [hd]; exact hk)
  rintro w' ⟨H', s', h'⟩
  rw [r.eval]
  exact h' w' s'
/-- One that does not look at memory need not be asked again. -/
theorem xp_pure {i d : Nat} {o : Oper} {v : Value} (hi : ops[i]? = some o) (hr : (Region.ready .any ops listed).contains i = true) (hf : Region.free .any ops listed i = true)
    (hw : wantedE ops ρ o = true) (hd : o.dst = some d) (hN : Nat.blt d C.N = true) (h : PV C o ρ v)
    (k : XP C ops Q fuel pend (listed.setIfInBounds i true) (upd ρ d v) H) : XP C ops Q (fuel + 1) pend listed ρ H := by
  intro hQ hsel hp a w r dd s
  have hk := k hQ hsel hp (a.put (some d) v) w (r.put (blt_lt hN) v) dd s
  refine wpP_first (I := fun _ => True) hi (Region.noSelect_spec hsel) (fun c a w => noPanic_lift hQ c _ _ w) fuel _ listed a w (Region.free_spec hi hf) (by simpa using hr) (.inl ⟨by rw [wantedE_eq r]; exact hw, ?_⟩) trivial (pend_world hp s) (wpP_true i _ _ _ _ _ (by rw [hd]; exact hk))
  intro w' _
  rw [r.eval]
  exact h w'
theorem xp_dec {i d : Nat} {o : Oper} {p : Prop} [Decidable p] (hi : ops[i]? = some o) (hr : (Region.ready .any ops listed).contains i = true) (hf : Region.free .any ops listed i = true)
    (hw : wantedE ops ρ o = true) (hd : o.dst = some d) (hN : Nat.blt d C.N = true) (h : PV C o ρ (.bool (decide p)))
    (k : p → XP C ops Q fuel pend (listed.setIfInBounds i true) (upd ρ d (.bool true)) H) (k' : ¬ p → XP C ops Q fuel pend (listed.setIfInBounds i true) (upd ρ d (.bool false)) H) : XP C ops Q (fuel + 1) pend listed ρ H := by
  refine xp_pure hi hr hf hw hd hN h ?_
  by_cases hp : p
  · rw [decide_eq_true hp]; exact k hp
  · rw [decide_eq_false hp]; exact k' hp
theorem xp_ndec {i d : Nat} {o : Oper} {p : Prop} [Decidable p] (hi : ops[i]? = some o) (hr : (Region.ready .any ops listed).contains i = true) (hf : Region.free .any ops listed i = true)
    (hw : wantedE ops ρ o = true) (hd : o.dst = some d) (hN : Nat.blt d C.N = true) (h : PV C o ρ (.bool (!decide p)))
    (k : p → XP C ops Q fuel pend (listed.setIfInBounds i true) (upd ρ d (.bool false)) H) (k' : ¬ p → XP C ops Q fuel pend (listed.setIfInBounds i true) (upd ρ d (.bool true)) H) : XP C ops Q (fuel + 1) pend listed ρ H := by
  refine xp_pure hi hr hf hw hd hN h ?_
  by_cases hp : p
  · rw [decide_eq_true hp]; exact k hp
  · rw [decide_eq_false hp]; exact k' hp
theorem xp_skip {i d : Nat} {o : Oper} (hi : ops[i]? = some o) (hr : (Region.ready .any ops listed).contains i = true) (hf : Region.free .any ops listed i = true)
    (hw : wantedE ops ρ o = false) (hd : o.dst = some d) (hN : Nat.blt d C.N = true)
    (k : XP C ops Q fuel pend (listed.setIfInBounds i true) (upd ρ d undef) H) : XP C ops Q (fuel + 1) pend listed ρ H := by
  intro hQ hsel hp a w r dd s
  have hk := k hQ hsel hp (a.put (some d) undef) w (r.put (blt_lt hN) undef) dd s
  exact wpP_first (I := fun _ => True) hi (Region.noSelect_spec hsel) (fun c a w => noPanic_lift hQ c _ _ w) fuel _ listed a w (Region.free_spec hi hf) (by simpa using hr) (.inr ⟨by rw [wantedE_eq r]; exact hw, rfl⟩) trivial (pend_world hp s) (wpP_true i _ _ _ _ _ (by rw [hd]; exact hk))
/-- One operation that makes, writes or calls comes up. -/
def XPh (C : Cx) (ops : Array Oper) (Q : XPost) (fuel : Nat) (pend : PendH) (listed : Array Bool) (ρ : Env) (H : Heap) (i : Nat) : Prop :=
  ∃ o R, ops[i]? = some o ∧ wantedE ops ρ o = true ∧ HV C o ρ H R ∧
    ((∃ d, o.dst = some d ∧ Nat.blt d C.N = true ∧ ∀ v H', R v H' → (pend.left ops i).ok H' ∧ XP C ops Q fuel (pend.left ops i) (listed.setIfInBounds i true) (upd ρ d v) H') ∨
     (o.dst = none ∧ ∀ v H', R v H' → (pend.left ops i).ok H' ∧ XP C ops Q fuel (pend.left ops i) (listed.setIfInBounds i true) ρ H'))
theorem xph_val {i d : Nat} {o : Oper} {R : Value → Heap → Prop} {pend' : PendH} (hi : ops[i]? = some o) (hw : wantedE ops ρ o = true) (hd : o.dst = some d) (hN : Nat.blt d C.N = true) (h : HV C o ρ H R) (hl : pend.left ops i = pend')
    (k : ∀ v H', R v H' → pend'.ok H' ∧ XP C ops Q fuel pend' (listed.setIfInBounds i true) (upd ρ d v) H') : XPh C ops Q fuel pend listed ρ H i := by
  subst hl; exact ⟨o, R, hi, hw, h, .inl ⟨d, hd, hN, k⟩⟩
theorem xph_store {i : Nat} {o : Oper} {R : Value → Heap → Prop} {pend' : PendH} (hi : ops[i]? = some o) (hw : wantedE ops ρ o = true) (hd : o.dst = none) (h : HV C o ρ H R) (hl : pend.left ops i = pend')
    (k : ∀ v H', R v H' → pend'.ok H' ∧ XP C ops Q fuel pend' (listed.setIfInBounds i true) ρ H') : XPh C ops Q fuel pend listed ρ H i := by
  subst hl; exact ⟨o, R, hi, hw, h, .inr ⟨hd, k⟩⟩
theorem pn {j : Nat} : PendH.left ops j [] = [] := rfl
theorem pk {j i : Nat} {I : Heap → Prop} {l l' : PendH} (hw : waits .any ops j i = false) (h : PendH.left ops j l = l') : PendH.left ops j ((i, I) :: l) = (i, I) :: l' := by
  subst h; simp [PendH.left, hw]
theorem pd {j i : Nat} {I : Heap → Prop} {l l' : PendH} (hw : waits .any ops j i = true) (h : PendH.left ops j l = l') : PendH.left ops j ((i, I) :: l) = l' := by
  subst h; simp [PendH.left, hw]
theorem okn : PendH.ok [] H := fun p hp => by cases hp
theorem okc {p : Nat × (Heap → Prop)} (h : p.2 H) (h' : pend.ok H) : PendH.ok (p :: pend) H := fun q hq => by
  rcases List.mem_cons.1 hq with rfl | hq
  · exact h
  · exact h' q hq
/-- All that are ready come up, one or the other. -/
theorem xp_heavies {l : List Nat} (hr : Region.ready .any ops listed = l) (hl : l.isEmpty = false) (h : ∀ i ∈ l, XPh C ops Q fuel pend listed ρ H i) : XP C ops Q (fuel + 1) pend listed ρ H := by
  intro hQ hsel hp a w r dd s
  refine ⟨fun h0 => by rw [← hr, h0] at hl; simp at hl, fun j hj => ?_⟩
  obtain ⟨o, R, hi, hw, hv, hk⟩ := h j (hr ▸ hj)
  unfold wpOp
  simp only [hi]
  rw [if_pos (by rw [wantedE_eq r]; exact hw)]
  refine .inl (hv.wp r s ?_)
  intro v H' w' s' hR
  rw [← PendH.up_left]
  rcases hk with ⟨d, hd, hN, k⟩ | ⟨hd, k⟩
  · obtain ⟨h1, h2⟩ := k v H' hR
    rw [hd]
    exact ⟨pend_world h1 s', h2 hQ hsel h1 _ w' (r.put (blt_lt hN) v) dd s'⟩
  · obtain ⟨h1, h2⟩ := k v H' hR
    rw [hd]
    exact ⟨pend_world h1 s', h2 hQ hsel h1 a w' r dd s'⟩
theorem xp_heavy {i : Nat} (hr : Region.ready .any ops listed = [i]) (h : XPh C ops Q fuel pend listed ρ H i) : XP C ops Q (fuel + 1) pend listed ρ H :=
  xp_heavies hr rfl (by intro j hj; simp at hj; subst hj; exact h)
theorem xp_heavy2 {i j : Nat} (hr : Region.ready .any ops listed = [i, j]) (h : XPh C ops Q fuel pend listed ρ H i) (h' : XPh C ops Q fuel pend listed ρ H j) : XP C ops Q (fuel + 1) pend listed ρ H :=
  xp_heavies hr rfl (by
    intro k hk
    simp at hk
    rcases hk with rfl | rfl
    · exact h
    · exact h')
end
end XG
end Go
namespace Go.XG
theorem xp_heavy3 {C : Cx} {Q : XPost} {ρ : Env} {H : Heap} {ops : Array Oper} {pend : PendH} {listed : Array Bool} {fuel : Nat} {i j m : Nat} (hr : Region.ready .any ops listed = [i, j, m]) (h : XPh C ops Q fuel pend listed ρ H i) (h' : XPh C ops Q fuel pend listed ρ H j) (h'' : XPh C ops Q fuel pend listed ρ H m) : XP C ops Q (fuel + 1) pend listed ρ H :=
  xp_heavies hr rfl (by
    intro k hk
    simp at hk
    rcases hk with rfl | rfl | rfl
    · exact h
    · exact h'
    · exact h'')
end Go.XG
