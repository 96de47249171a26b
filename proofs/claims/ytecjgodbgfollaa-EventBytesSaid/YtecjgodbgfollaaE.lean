/-
  Marks, in plain Lean: which may be, what a log says of them; how a log lies in memory.
-/
import Derived.Test.YtecjgodbgfollaaXk
namespace Go.XG
abbrev kAt (r : List Int) : Int := r.getD 0 0
abbrev kW (r : List Int) : Int := r.getD 1 0
abbrev kI (r : List Int) : Int := r.getD 2 0
abbrev kS (r : List Int) : Int := r.getD 3 0
def May (a w i s : Int) : Prop := (0 ≤ a ∧ a ≤ 1099511627776) ∧ (1 ≤ i ∧ i ≤ 1099511627776) ∧ (w = 1 ∧ (s = 4 ∨ s = 6) ∨ w = 2 ∧ 3 ≤ s ∧ s ≤ 7)
instance (a w i s : Int) : Decidable (May a w i s) := by unfold May; infer_instance
def lastAt (l : List (List Int)) : Int := if l.length = 0 then 0 else (gr l (l.length - 1)).getD 0 0
theorem lastAt_nil : lastAt [] = 0 := rfl
theorem lastAt_pos {l : List (List Int)} (h : 0 < l.length) : lastAt l = (gr l (l.length - 1)).getD 0 0 := by unfold lastAt; rw [if_neg (by omega)]
def Is (r : List Int) (w i : Int) : Prop := r.getD 1 0 = w ∧ r.getD 2 0 = i
instance (r : List Int) (w i : Int) : Decidable (Is r w i) := by unfold Is; infer_instance
def ofI : List (List Int) → Int → Int → Option Nat
  | [], _, _ => none
  | r :: l, w, i => if Is r w i then some 0 else (ofI l w i).map (· + 1)
def ofR (l : List (List Int)) (w i : Int) : List Int := match ofI l w i with
  | some j => gr l j
  | none => [0, 0, 0, 0]
def addL (l : List (List Int)) (a w i s : Int) : Int × List (List Int) :=
  if ¬ May a w i s ∨ a < lastAt l then (1, l) else if (ofI l w i).isSome then (9, l) else if 128 ≤ l.length then (4, l) else (0, l ++ [[a, w, i, s]])
def addR (l : List (List Int)) (r : List Int) : Int × List (List Int) := addL l (kAt r) (kW r) (kI r) (kS r)
theorem row4 {r : List Int} (h : r.length = 4) : r = [kAt r, kW r, kI r, kS r] := by
  match r, h with
  | [a, b, c, d], _ => rfl
section
variable {l : List (List Int)} {a w i s : Int} {j : Nat}
theorem add_1 (h : ¬ May a w i s ∨ a < lastAt l) : addL l a w i s = (1, l) := if_pos h
theorem add_9 (h : ¬ (¬ May a w i s ∨ a < lastAt l)) (h2 : (ofI l w i).isSome = true) : addL l a w i s = (9, l) := by unfold addL; rw [if_neg h, if_pos h2]
theorem add_4 (h : ¬ (¬ May a w i s ∨ a < lastAt l)) (h2 : (ofI l w i).isSome = false) (h3 : 128 ≤ l.length) : addL l a w i s = (4, l) := by unfold addL; rw [if_neg h, if_neg (by rw [h2]; decide), if_pos h3]
theorem add_0 (h : ¬ (¬ May a w i s ∨ a < lastAt l)) (h2 : (ofI l w i).isSome = false) (h3 : ¬ 128 ≤ l.length) : addL l a w i s = (0, l ++ [[a, w, i, s]]) := by unfold addL; rw [if_neg h, if_neg (by rw [h2]; decide), if_neg h3]
theorem gr_cons {r : List Int} {l : List (List Int)} {k : Nat} : gr (r :: l) (k + 1) = gr l k := by simp [gr]
theorem ofI_some : ∀ {l : List (List Int)} {j : Nat}, ofI l w i = some j → j < l.length ∧ Is (gr l j) w i ∧ ∀ k, k < j → ¬ Is (gr l k) w i
  | [], j, h => by cases h
  | r :: l, j, h => by
    unfold ofI at h
    split at h
    · rename_i hr
      injection h with h; subst h
      exact ⟨by simp, by simpa [gr] using hr, fun k hk => absurd hk (Nat.not_lt_zero k)⟩
    · rename_i hr
      cases ho : ofI l w i with
      | none => rw [ho] at h; cases h
      | some j' =>
        rw [ho] at h
        simp at h
        subst h
        obtain ⟨h1, h2, h3⟩ := ofI_some ho
        refine ⟨by simpa using h1, by rw [gr_cons]; exact h2, fun k hk => ?_⟩
        cases k with
        | zero => simpa [gr] using hr
        | succ k => rw [gr_cons]; exact h3 k (by omega)
theorem ofI_at : ∀ {l : List (List Int)} {j : Nat}, j < l.length → Is (gr l j) w i → (∀ k, k < j → ¬ Is (gr l k) w i) → ofI l w i = some j
  | [], j, h, _, _ => by simp at h
  | r :: l, j, h, h2, h3 => by
    unfold ofI
    cases j with
    | zero => rw [if_pos (by simpa [gr] using h2)]
    | succ j =>
      rw [if_neg (by have := h3 0 (by omega); simpa [gr] using this), ofI_at (by simpa using h) (by rw [gr_cons] at h2; exact h2) (fun k hk => by have := h3 (k + 1) (by omega); rwa [gr_cons] at this)]
      rfl
theorem ofI_none : ∀ {l : List (List Int)}, (∀ k, k < l.length → ¬ Is (gr l k) w i) → ofI l w i = none
  | [], _ => rfl
  | r :: l, h => by
    unfold ofI
    rw [if_neg (by have := h 0 (by simp); simpa [gr] using this), ofI_none (fun k hk => by have := h (k + 1) (by simpa using hk); rwa [gr_cons] at this)]
    rfl
theorem ofR_some (h : ofI l w i = some j) : ofR l w i = gr l j := by unfold ofR; rw [h]
theorem ofR_none (h : ofI l w i = none) : ofR l w i = [0, 0, 0, 0] := by unfold ofR; rw [h]
theorem ofR_len (hw : Wide 4 l) : (ofR l w i).length = 4 := by
  cases h : ofI l w i with
  | none => rw [ofR_none h]; rfl
  | some j => rw [ofR_some h]; exact hw.get (ofI_some h).1
end
/-- Where each thing stands, as the map has it. -/
def idx : Nat → List (List Int) → Ents
  | _, [] => []
  | n, r :: l => ([kW r, kI r], (n : Int)) :: idx (n + 1) l
theorem look_idx : ∀ (n : Nat) (l : List (List Int)) (w i : Int), look (idx n l) [w, i] = (ofI l w i).map fun j => ((n + j : Nat) : Int)
  | n, [], w, i => rfl
  | n, r :: l, w, i => by
    have ih := look_idx (n + 1) l w i
    simp only [idx, look, ofI]
    by_cases h : Is r w i
    · rw [if_pos (by show [w, i] = [r.getD 1 0, r.getD 2 0]; rw [h.1, h.2]), if_pos h]; rfl
    · rw [if_neg (fun e => h ⟨by simp at e; exact e.1.symm, by simp at e; exact e.2.symm⟩), if_neg h, ih]
      cases ofI l w i with
      | none => rfl
      | some j => simp; omega
theorem put_idx : ∀ (n : Nat) (l : List (List Int)) (a w i s : Int), ofI l w i = none → putE (idx n l) [w, i] ((n + l.length : Nat) : Int) = idx n (l ++ [[a, w, i, s]])
  | n, [], a, w, i, s, _ => rfl
  | n, r :: l, a, w, i, s, h => by
    unfold ofI at h
    split at h
    · cases h
    · rename_i hr
      have ho : ofI l w i = none := by
        cases ho : ofI l w i with
        | none => rfl
        | some j => rw [ho] at h; cases h
      have ih := put_idx (n + 1) l a w i s ho
      simp only [List.cons_append, idx, putE]
      rw [if_neg (fun e => hr ⟨by simp at e; exact e.1.symm, by simp at e; exact e.2.symm⟩), List.length_cons, show n + (l.length + 1) = n + 1 + l.length by omega, ih]
theorem idx_wide : ∀ (n : Nat) (l : List (List Int)), ∀ p ∈ idx n l, p.1.length = 2
  | _, [], p, hp => by cases hp
  | n, r :: l, p, hp => by
    rcases List.mem_cons.1 hp with rfl | hp
    · rfl
    · exact idx_wide (n + 1) l p hp
theorem fr_snoc (l : List (List Int)) (r : List Int) : fr (l ++ [r]) = fr l ++ ints r := by simp [fr]
theorem wide_snoc {k : Nat} {l : List (List Int)} {r : List Int} (h : Wide k l) (hr : r.length = k) : Wide k (l ++ [r]) := h.app fun x hx => by simp at hx; rw [hx]; exact hr
/-- A log in memory. -/
structure LogAt (H : Heap) (B p : Nat) (va : Option Addr) (vc : Nat) (mv : Option Nat) (l : List (List Int)) : Prop where
  blk : Blk H p [.slice va l.length vc, .map mv] 27
  own : Own H B 29 4 (.slice va l.length vc) l.length (fr l)
  map : match mv with
    | none => l = []
    | some m => MapAt H m kvA 2 (idx 0 l) ∧ B ≤ m
  wide : Wide 4 l
  len : l.length ≤ 128
  base : B ≤ p
def Ft (p : Nat) (va : Option Addr) (mv : Option Nat) : Nat → Prop := fun i => i = p ∨ (∃ a, va = some a ∧ a.block = i) ∨ mv = some i
section
variable {H H1 : Heap} {B p vc : Nat} {va : Option Addr} {mv : Option Nat} {l : List (List Int)}
theorem LogAt.ext (h : LogAt H B p va vc mv l) (e : Ext H H1) : LogAt H1 B p va vc mv l :=
  ⟨h.blk.ext e, h.own.ext e, by have := h.map; cases mv with
    | none => exact this
    | some m => exact ⟨this.1.ext e, this.2⟩, h.wide, h.len, h.base⟩
theorem LogAt.rows (h : LogAt H B p va vc mv l) : Rows H va 4 l := own_rows h.wide h.own
theorem own_block {base e size n c : Nat} {a : Addr} {xs : List Value} (h : Own H base e size (.slice (some a) n c) n xs) : base ≤ a.block ∧ a.block < H.size := by
  rcases h.2 with ⟨h2, _⟩ | ⟨g, cap, cur, h1, h2, h3, _⟩
  · cases h2
  · injection h1 with h1; injection h1 with h1; rw [h1]; exact ⟨h2, lt_of_get h3⟩
theorem LogAt.ft (h : LogAt H B p va vc mv l) : ∀ i, Ft p va mv i → B ≤ i ∧ i < H.size := by
  rintro i (rfl | ⟨a, rfl, rfl⟩ | rfl)
  · exact ⟨h.base, h.blk.lt⟩
  · exact own_block h.own
  · exact ⟨h.map.2, h.map.1.lt⟩
theorem LogAt.new {H' : Heap} {p : Nat} (h : Blk H' p [.slice none 0 0, .map none] 27) (hB : B ≤ p) : LogAt H' B p none 0 none [] :=
  ⟨h, Own.nil .., rfl, wide_nil, Nat.zero_le _, hB⟩
end
structure OffF (F : Nat → Prop) (b : Nat) : Prop where
  no : ¬ F b
section
variable {H H1 H2 : Heap} {B p vc b : Nat} {va : Option Addr} {mv : Option Nat} {l : List (List Int)} {cs : List Value} {t : TypeId}
theorem LogAt.apart (h : LogAt H B p va vc mv l) (n : New H H1 b cs t) : OffF (Ft p va mv) b := ⟨fun hf => by have := (h.ft b hf).2; have := n.ge; omega⟩
theorem LogAt.keep {F : Nat → Prop} (h : LogAt H B p va vc mv l) (k : KeepF F H H1) (hf : ∀ i, Ft p va mv i → ¬ F i) : LogAt H1 B p va vc mv l :=
  ⟨h.blk.keep k (hf p (.inl rfl)), by
    refine ⟨h.own.1, ?_⟩
    rcases h.own.2 with h2 | ⟨g, cap, cur, h1, h2, h3, h4⟩
    · exact .inl h2
    · refine .inr ⟨g, cap, cur, h1, h2, (k.same g (lt_of_get h3) (hf g ?_)).trans h3, h4⟩
      injection h1 with h1
      exact .inr (.inl ⟨_, h1, rfl⟩),
   by have := h.map; cases mv with
    | none => exact this
    | some m =>
      refine ⟨⟨this.1.wide, ?_⟩, this.2⟩
      obtain ⟨ms, c, h1, h2⟩ := this.1.h
      exact ⟨ms, c, (k.same m (lt_of_get h1) (hf m (.inr (.inr rfl)))).trans h1, h2⟩, h.wide, h.len, h.base⟩
theorem LogAt.off (h : LogAt H B p va vc mv l) (u : But b H H1) (a : OffF (Ft p va mv) b) : LogAt H1 B p va vc mv l :=
  h.keep (F := fun i => i = b) ⟨u.size, fun i hi hn => u.same i hi hn⟩ (fun i hi e => a.no (e ▸ hi))
theorem ft_own {n c i : Nat} (h : (Value.slice va n c).ownBlock = some i) : Ft p va mv i := by
  cases va with
  | none => simp [Value.ownBlock] at h
  | some a => simp [Value.ownBlock] at h; exact .inr (.inl ⟨a, rfl, h⟩)
theorem grown_log {va' : Option Addr} {mv' : Option Nat} {n c n' c' : Nat} (hb : (Value.slice va' n' c').ownBlock = (Value.slice va n c).ownBlock ∨ (Value.slice va' n' c').ownBlock = some H2.size) (hs : H.size ≤ H2.size) (hm : mv' = mv ∨ ∃ m, mv' = some m ∧ H.size ≤ m) :
    Grown (Ft p va mv) (Ft p va' mv') H := by
  rintro i (rfl | ⟨a, rfl, rfl⟩ | rfl)
  · exact .inl (.inl rfl)
  · have e : (Value.slice (some a) n' c').ownBlock = some a.block := rfl
    rw [e] at hb
    rcases hb with hb | hb
    · exact .inl (ft_own hb.symm)
    · injection hb with hb; exact .inr (by omega)
  · rcases hm with rfl | ⟨m, h1, h2⟩
    · exact .inl (.inr (.inr rfl))
    · injection h1 with h1; subst h1; exact .inr h2
end
theorem isSome_no {α : Type} {o : Option α} (h : o.isSome = false) : o = none := by cases o <;> simp at h ⊢
def loadL (ls : List (List Int)) : Option (List (List Int)) := ls.foldl (fun o r => o.bind fun x => if (addR x r).1 = 0 then some (addR x r).2 else none) (some [])
theorem load_none (ls : List (List Int)) : ls.foldl (fun o r => o.bind fun x => if (addR x r).1 = 0 then some (addR x r).2 else none) none = none := by
  induction ls with
  | nil => rfl
  | cons r ls ih => exact ih
theorem load_take {ls : List (List Int)} {k : Nat} (h : k < ls.length) : loadL (ls.take (k + 1)) = (loadL (ls.take k)).bind fun x => if (addR x (gr ls k)).1 = 0 then some (addR x (gr ls k)).2 else none := by
  unfold loadL; rw [take_gr h, List.foldl_append]; rfl
theorem load_ok {ls x : List (List Int)} {k : Nat} {e : Int} {x' : List (List Int)} (h : k < ls.length) (hx : loadL (ls.take k) = some x) (ha : addR x (gr ls k) = (e, x')) (he : e = 0) : loadL (ls.take (k + 1)) = some x' := by
  rw [load_take h, hx, Option.bind_some, ha, if_pos he]
theorem load_bad {ls x : List (List Int)} {k : Nat} {e : Int} {x' : List (List Int)} (h : k < ls.length) (hx : loadL (ls.take k) = some x) (ha : addR x (gr ls k) = (e, x')) (he : e ≠ 0) : loadL ls = none := by
  have h1 : loadL (ls.take (k + 1)) = none := by rw [load_take h, hx, Option.bind_some, ha, if_neg he]
  have h2 : ls = ls.take (k + 1) ++ ls.drop (k + 1) := (List.take_append_drop _ _).symm
  rw [h2]
  unfold loadL at h1 ⊢
  rw [List.foldl_append, h1, load_none]
end Go.XG
namespace Go.XG
def cntL (l : List (List Int)) (w s : Int) : Int := (l.filter fun r => decide (r.getD 1 0 = w ∧ r.getD 3 0 = s)).length
section
variable {l : List (List Int)} {k : Nat} {w s : Int}
theorem cnt_yes (h : k < l.length) (h1 : (gr l k).getD 1 0 = w) (h2 : (gr l k).getD 3 0 = s) : cntL (l.take k) w s + 1 = cntL (l.take (k + 1)) w s := by
  unfold cntL; rw [take_gr h, List.filter_append, List.filter_cons, if_pos (decide_eq_true ⟨h1, h2⟩)]; simp
theorem cnt_no (h : k < l.length) (h1 : ¬ ((gr l k).getD 1 0 = w ∧ (gr l k).getD 3 0 = s)) : cntL (l.take k) w s = cntL (l.take (k + 1)) w s := by
  unfold cntL; rw [take_gr h, List.filter_append, List.filter_cons, if_neg (by rw [decide_eq_false h1]; decide)]; simp
end
end Go.XG
namespace Go.XG
theorem ints_get {r : List Int} {j : Nat} (h : j < r.length) : (ints r)[j]? = some (.int .i64 (r.getD j 0)) := by simp [ints, h]
def btw (f t : Int) (r : List Int) : Bool := decide (f ≤ r.getD 0 0 ∧ r.getD 0 0 < t)
section
variable {l : List (List Int)} {k : Nat} {p : List Int → Bool}
theorem flt_yes (h : k < l.length) (hp : p (gr l k) = true) : (l.take (k + 1)).filter p = (l.take k).filter p ++ [gr l k] := by rw [take_gr h, List.filter_append, List.filter_cons, if_pos hp, List.filter_nil]
theorem flt_no (h : k < l.length) (hp : p (gr l k) = false) : (l.take (k + 1)).filter p = (l.take k).filter p := by rw [take_gr h, List.filter_append, List.filter_cons, if_neg (by rw [hp]; decide), List.filter_nil, List.append_nil]
end
end Go.XG
namespace Go.XG
theorem cnt_bd {l : List (List Int)} {k : Nat} {w s : Int} : 0 ≤ cntL (l.take k) w s ∧ cntL (l.take k) w s ≤ k := by
  unfold cntL
  have h1 := List.length_filter_le (fun r : List Int => decide (r.getD 1 0 = w ∧ r.getD 3 0 = s)) (l.take k)
  have h2 : (l.take k).length ≤ k := List.length_take_le ..
  omega
end Go.XG
