/-
  XG, part w: one deferred call of a closure.
-/
import Derived.Test.YtjlhjjjhblcokaaXs
import Derived.DefersIn
namespace Go.XG
/-- The function f, called as a deferred one, returns; of what it hands back nothing is told. -/
def DfC (P : Program) (f : FuncId) (A : Array Value) (O : Outer) (H : Heap) (R : Heap → Prop) : Prop :=
  ∀ u w, Sees O H w → CallsDIn Fence.wide 0 P f A u w fun e u' w' => u' = u ∧ ∃ v H', e = .returned v ∧ Sees O H' w' ∧ R H'
theorem DfC.mono {P : Program} {f : FuncId} {A : Array Value} {O : Outer} {H : Heap} {R R' : Heap → Prop} (h : DfC P f A O H R) (k : ∀ H', R H' → R' H') : DfC P f A O H R' := fun u w hs =>
  CallsDIn.mono (h u w hs) fun _ _ _ ⟨hu, v, H', e, s, r⟩ => ⟨hu, v, H', e, s, k H' r⟩
def finN (P : Program) (fn : Func) (R : Heap → Prop) : XPost
  | .normal, ρ, H => ∃ v, FnRes P fn ρ H v ∧ R H
  | _, _, _ => False
theorem np_finN {P : Program} {fn : Func} {R : Heap → Prop} : NoPanic (finN P fn R) := fun _ _ _ h => h
theorem finN_normal {P : Program} {fn : Func} {R : Heap → Prop} {ρ : Env} {H : Heap} {v : Value} (h : FnRes P fn ρ H v) (hR : R H) : finN P fn R .normal ρ H := ⟨v, h, hR⟩
theorem rel0 {A : List Value} {n : Nat} (hn : Nat.ble A.length n = true) : Rel n (args0 A) { tmps := A.toArray ++ Array.replicate (n - A.toArray.size) undef, defers := [] } := by
  refine ⟨trivial, ?_, ?_⟩
  · have := Nat.le_of_ble_eq_true hn
    simp; omega
  · intro i
    simp only [args0, List.getD_eq_getElem?_getD, Array.getD_eq_getD_getElem?, Array.getElem?_append, List.size_toArray, List.getElem?_toArray]
    split
    · rfl
    · rename_i hlt
      rw [Array.getElem?_replicate, List.getElem?_eq_none (by omega)]
      split <;> rfl
theorem df_enter {P : Program} {f : FuncId} {fn : Func} {c : Code} {A : List Value} {O : Outer} {H : Heap} {R : Heap → Prop} (hf : P.funcs[f]? = some fn) (hb : fn.body = some c) (hn : Nat.ble A.length fn.ntmps = true)
    (h : XC { P := P, N := fn.ntmps, O := O } c (finN P fn R) (args0 A) H) : DfC P f A.toArray O H R := by
  intro u w hs
  refine callsDIn_of_wp (n := 0) (R := fun e w' => ∃ v H', e = .returned v ∧ Sees O H' w' ∧ R H') hf hb trivial (wpIn_mono (h _ w (rel0 hn) rfl hs) ?_)
  intro e a w' hl
  cases e with
  | normal => obtain ⟨ρ', H', r, s, d, v, h1, h2⟩ := hl; exact ⟨d, v, h1 _ _ _ _ r s, v, H', rfl, s, h2⟩
  | ret => obtain ⟨_, _, _, _, ⟨_, q⟩ | ⟨_, _, _, q⟩⟩ := hl <;> exact q.elim
  | exit id => obtain ⟨_, _, _, _, _, q⟩ := hl; exact q.elim
  | goto id => obtain ⟨_, _, _, _, _, q⟩ := hl; exact q.elim
  | panic c => obtain ⟨_, _, _, _, _, q⟩ := hl; exact q.elim
  | outgrown => obtain ⟨_, _, _, _, _, q⟩ := hl; exact q.elim
/-- What the body of a function must come to, deferred calls and all. -/
def door (P : Program) (fn : Func) (O : Outer) (R : Value → Heap → Prop) : Exit → Act → World → Prop :=
  bodyPostM Fence.wide 0 P fn (fun e w' => ∃ v H', e = .returned v ∧ Sees O H' w' ∧ R v H')
def XB (C : Cx) (c : Code) (E : Exit → Act → World → Prop) (ρ : Env) (H : Heap) : Prop :=
  ∀ a w, Rel C.N ρ a → a.defers = C.D → Sees C.O H w → c.wpIn C.F 0 C.P E a w
theorem fn_enterB {P : Program} {f : FuncId} {fn : Func} {c : Code} {A : List Value} {O : Outer} {H : Heap} {R : Value → Heap → Prop} (hf : P.funcs[f]? = some fn) (hb : fn.body = some c) (hn : Nat.ble A.length fn.ntmps = true)
    (h : XB { P := P, N := fn.ntmps, O := O } c (door P fn O R) (args0 A) H) : FnC P f A.toArray O H R := fun w hs =>
  callsIn_wide.1 (callsIn_of_wp_marks (n := 0) hf hb trivial (h _ w (rel0 hn) rfl hs))
section
variable {C : Cx} {fn : Func} {ρ : Env} {H : Heap} {R : Value → Heap → Prop}
theorem fin_door {e : Exit} {a : Act} {w : World} (hl : lift C [] (fin C.P fn R) e a w) : door C.P fn C.O R e a w := by
  have key : ∀ (ρ' : Env) (H' : Heap) (a : Act) (w' : World), Rel C.N ρ' a → Sees C.O H' w' → a.defers = [] → (∃ v, FnRes C.P fn ρ' H' v ∧ R v H') →
      LeavesInM Fence.wide 0 C.P fn a.tmps (fun e w' => ∃ v H', e = .returned v ∧ Sees C.O H' w' ∧ R v H') a.defers .returning w' := by
    rintro ρ' H' a w' r s hd ⟨v, h1, h2⟩
    rw [hd]
    exact ⟨v, h1 _ _ _ _ r s, v, H', rfl, s, h2⟩
  cases e with
  | normal => obtain ⟨ρ', H', r, s, d, q⟩ := hl; exact key ρ' H' a w r s d q
  | ret =>
    obtain ⟨ρ', H', r, s, ⟨d, q⟩ | ⟨k, d, hk, q⟩⟩ := hl
    · exact key ρ' H' a w r s d q
    · obtain ⟨v, h1, h2⟩ := q
      have hk' : w.heap[k]? = some (.deferred (some [])) := by rw [s.1]; exact hk
      have s' : Sees C.O (H'.setIfInBounds k (.deferred none)) (w.putObj k (.deferred none)) := ⟨by rw [← s.1]; rfl, s.2.1, s.2.2.1, s.2.2.2⟩
      show LeavesInM Fence.wide 0 C.P fn a.tmps _ a.defers .returning w
      rw [d]
      exact ⟨by simp, .inl ⟨k, _, rfl, run_takeDeferred hk', v, h1 _ _ _ _ r s', v, _, rfl, s', h2⟩⟩
  | exit id => obtain ⟨_, _, _, _, _, q⟩ := hl; exact q.elim
  | goto id => obtain ⟨_, _, _, _, _, q⟩ := hl; exact q.elim
  | panic c => obtain ⟨_, _, _, _, _, q⟩ := hl; exact q.elim
  | outgrown => obtain ⟨_, _, _, _, _, q⟩ := hl; exact q.elim
theorem xb_seq {x y : Code} (h : XC C x (xthen (XB C y (door C.P fn C.O R)) (fin C.P fn R)) ρ H) (hD : C.D = [] := by rfl) : XB C (.seq x y) (door C.P fn C.O R) ρ H := by
  intro a w hr hd hs
  refine wpIn_seq (wpIn_mono (h a w hr hd hs) ?_)
  intro e a' w' hl
  rw [hD] at hl
  cases e with
  | normal => obtain ⟨ρ', H', r, s, d, q⟩ := hl; exact q a' w' r (d.trans hD.symm) s
  | ret => exact fin_door (e := .ret) hl
  | exit id => exact fin_door (e := .exit id) hl
  | goto id => exact fin_door (e := .goto id) hl
  | panic c => exact fin_door (e := .panic c) hl
  | outgrown => exact fin_door (e := .outgrown) hl
/-- A closure is made, and its call put off. -/
theorem xb_defer {id d1 : Nat} {o1 o2 : Oper} {y : Code} {f : Operand} {as : Array Operand} {ts : Array TypeId} {g : FuncId} {fst cap : Array Value} {E : Exit → Act → World → Prop}
    (hw : wantedE #[o1, o2] ρ o1 = true) (hd1 : o1.dst = some d1) (hN : Nat.blt d1 C.N = true) (h1 : PV C o1 ρ (.func (.func g) fst cap))
    (hw2 : wantedE #[o1, o2] (upd ρ d1 (.func (.func g) fst cap)) o2 = true) (ho : o2.op = .defer { callee := .value f, args := as, argTypes := ts }) (hd2 : o2.dst = none)
    (hf : ev (upd ρ d1 (.func (.func g) fst cap)) f = .func (.func g) fst cap)
    (k : XB { C with D := [{ target := .fn (.func g) cap, args := fst ++ as.map (ev (upd ρ d1 (.func (.func g) fst cap))) }] } y E (upd ρ d1 (.func (.func g) fst cap)) H) (hD : C.D = [] := by rfl) (hR : C.r = none := by rfl) :
    XB C (.seq (.region id #[o1, o2] false) y) E ρ H := by
  intro a w hr hdf hs
  have hN' : d1 < C.N := blt_lt hN
  refine wpIn_seq (wpIn_region_lit (l := [o1, o2]) ?_)
  unfold wpListIn
  rw [if_pos (by rw [wantedE_eq hr]; exact hw)]
  refine ⟨fun _ _ => trivial, ?_⟩
  rw [hr.eval, semAt_run (h1 w) (fun _ => by simp), Oper.uponIn_value, hd1]
  have hr1 := hr.put hN' (.func (.func g) fst cap)
  unfold wpListIn
  rw [if_pos (by rw [wantedE_eq hr1]; exact hw2)]
  refine ⟨fun _ _ => trivial, ?_⟩
  have hro : C.F.round = none := hR
  have he : (Oper.semAt C.F.round (ev (upd ρ d1 (.func (.func g) fst cap))) o2).run C.P w = .ok (.defer { target := .fn (.func g) cap, args := fst ++ as.map (ev (upd ρ d1 (.func (.func g) fst cap))) }) w := by
    rw [hro, Oper.semAt_none]
    unfold execOp
    rw [ho]
    simp [resolve, hf, Deferred.ofValue]
  rw [hr1.eval]
  show Oper.uponIn _ _ _ _ _ _ _ (Sem.run C.P (Oper.semAt C.F.round _ o2) w)
  rw [he, Oper.uponIn_defer, hd2]
  unfold wpListIn
  refine k _ w ?_ ?_ hs
  · exact ⟨trivial, hr1.2.1, hr1.2.2⟩
  · show _ :: a.defers = _
    rw [hdf, hD]
/-- The last call, and the return: the deferred call is made, then the result is read. -/
theorem xb_last {x : Code} {g : FuncId} {cap fst : Array Value} {A : List Value} [hg : Has C.P g] (hA : fst.toList ++ cap.toList = A) (hD : C.D = [{ target := .fn (.func g) cap, args := fst }])
    (h : XC C x (xthen (fun ρ' H' => DfC C.P g A.toArray C.O H' fun H2 => ∃ v, FnRes C.P fn ρ' H2 v ∧ R v H2) (fun _ _ _ => False)) ρ H) : XB C (.seq x .ret) (door C.P fn C.O R) ρ H := by
  intro a w hr hd hs
  refine wpIn_seq (wpIn_mono (h a w hr hd hs) ?_)
  intro e a' w' hl
  cases e with
  | normal =>
    obtain ⟨ρ', H', r, s, d, q⟩ := hl
    refine wpIn_ret ?_
    show LeavesInM Fence.wide 0 C.P fn a'.tmps _ a'.defers .returning w'
    rw [d, hD]
    have hA' : fst ++ cap = A.toArray := by rw [← hA]; apply Array.ext'; simp
    refine ⟨by simp, .inr ⟨fun hh => (by cases hh), .func g, cap, g, A.toArray, rfl, ?_, fun _ _ => trivial, ?_⟩⟩
    · simp only [invoke, hA', hg.h]
    · refine CallsDIn.mono (q .returning w' s) ?_
      rintro e u' w2 ⟨rfl, v0, H2, rfl, s2, v, h1, h2⟩
      exact ⟨v, h1 _ _ _ _ r s2, v, H2, rfl, s2, h2⟩
  | ret => obtain ⟨_, _, _, _, ⟨_, q⟩ | ⟨_, _, _, q⟩⟩ := hl <;> exact q.elim
  | exit id => obtain ⟨_, _, _, _, _, q⟩ := hl; exact q.elim
  | goto id => obtain ⟨_, _, _, _, _, q⟩ := hl; exact q.elim
  | panic c => obtain ⟨_, _, _, _, _, q⟩ := hl; exact q.elim
  | outgrown => obtain ⟨_, _, _, _, _, q⟩ := hl; exact q.elim
end
end Go.XG
