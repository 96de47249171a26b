/-
  Walks of the seat's functions over the logic XG: each function, what it computes. Printed by a program out of wip/walks.py.
-/
import Derived.Test.YtbcbgjikgilpcaaI
import Derived.Test.YtbcbgjikgilpcaaM
import Derived.Test.YtbcbgjikgilpcaaGc
namespace Go.XG
open Go.Proofs
set_option maxRecDepth 4000
set_option maxHeartbeats 4000000
theorem gIsChar {O : Outer} {H : Heap} (n : Int) :
    FnC Try.prog 26 #[.int .i64 n] O H (fun v H' => ((isC n ∧ v = .bool true ∨ ¬ isC n ∧ v = .bool false) ∧ H = H')) := by
  refine fn_enter (A := [.int .i64 n]) Try.func26 rfl rfl ?_
  have hX := Ext.refl H
  refine xc_seq ?_
  refine xc_region ?_
  refine xl_pure rfl rfl rfl (pv_assign (v := .bool _) rfl rfl) ?_
  refine xl_nil ?_
  refine xthen_normal ?_
  refine xc_seq ?_
  refine xc_region ?_
  refine xl_pure rfl rfl rfl (pv_move (v := .int _ _) rfl rfl) ?_
  refine xl_dec rfl rfl rfl (pv_geq rfl rfl rfl) (fun h1_1 => ?_) (fun h1_1 => ?_)
  · skip
    refine xl_pure rfl rfl rfl (pv_move (v := .bool _) rfl rfl) ?_
    refine xl_pure rfl rfl rfl (pv_move (v := .int _ _) rfl rfl) ?_
    refine xl_dec rfl rfl rfl (pv_leq rfl rfl rfl) (fun h1_4 => ?_) (fun h1_4 => ?_)
    · skip
      refine xl_pure rfl rfl rfl (pv_pick_t (v := .bool _) rfl rfl rfl) ?_
      refine xl_pure rfl rfl rfl (pv_assign (v := .bool _) rfl rfl) ?_
      refine xl_nil ?_
      refine xthen_normal ?_
      refine xc_ret ?_
      refine fin_ret (res1 (v := .bool _) rfl rfl) ?_
      first
        | exact ⟨.inl ⟨by unfold isC; omega, rfl⟩, rfl⟩
        | exact ⟨.inr ⟨by unfold isC; omega, rfl⟩, rfl⟩
    · skip
      refine xl_pure rfl rfl rfl (pv_pick_t (v := .bool _) rfl rfl rfl) ?_
      refine xl_pure rfl rfl rfl (pv_assign (v := .bool _) rfl rfl) ?_
      refine xl_nil ?_
      refine xthen_normal ?_
      refine xc_ret ?_
      refine fin_ret (res1 (v := .bool _) rfl rfl) ?_
      first
        | exact ⟨.inl ⟨by unfold isC; omega, rfl⟩, rfl⟩
        | exact ⟨.inr ⟨by unfold isC; omega, rfl⟩, rfl⟩
  · skip
    refine xl_pure rfl rfl rfl (pv_move (v := .bool _) rfl rfl) ?_
    refine xl_skip rfl rfl rfl ?_
    refine xl_skip rfl rfl rfl ?_
    refine xl_pure rfl rfl rfl (pv_pick_f (v := .bool _) rfl rfl rfl) ?_
    refine xl_pure rfl rfl rfl (pv_assign (v := .bool _) rfl rfl) ?_
    refine xl_nil ?_
    refine xthen_normal ?_
    refine xc_ret ?_
    refine fin_ret (res1 (v := .bool _) rfl rfl) ?_
    first
      | exact ⟨.inl ⟨by unfold isC; omega, rfl⟩, rfl⟩
      | exact ⟨.inr ⟨by unfold isC; omega, rfl⟩, rfl⟩

theorem rIsChar {O : Outer} {H : Heap} (n : Int) :
    FnC Try.prog 31 #[.int .i64 n] O H (fun v H' => ((isC n ∧ v = .bool true ∨ ¬ isC n ∧ v = .bool false) ∧ H = H')) := by
  refine fn_enter (A := [.int .i64 n]) Try.func31 rfl rfl ?_
  have hX := Ext.refl H
  refine xc_seq ?_
  refine xc_region ?_
  refine xl_pure rfl rfl rfl (pv_assign (v := .bool _) rfl rfl) ?_
  refine xl_nil ?_
  refine xthen_normal ?_
  refine xc_seq ?_
  refine xc_region ?_
  refine xl_pure rfl rfl rfl (pv_move (v := .int _ _) rfl rfl) ?_
  refine xl_dec rfl rfl rfl (pv_geq rfl rfl rfl) (fun h1_1 => ?_) (fun h1_1 => ?_)
  · skip
    refine xl_pure rfl rfl rfl (pv_move (v := .bool _) rfl rfl) ?_
    refine xl_pure rfl rfl rfl (pv_move (v := .int _ _) rfl rfl) ?_
    refine xl_dec rfl rfl rfl (pv_leq rfl rfl rfl) (fun h1_4 => ?_) (fun h1_4 => ?_)
    · skip
      refine xl_pure rfl rfl rfl (pv_pick_t (v := .bool _) rfl rfl rfl) ?_
      refine xl_pure rfl rfl rfl (pv_assign (v := .bool _) rfl rfl) ?_
      refine xl_nil ?_
      refine xthen_normal ?_
      refine xc_ret ?_
      refine fin_ret (res1 (v := .bool _) rfl rfl) ?_
      first
        | exact ⟨.inl ⟨by unfold isC; omega, rfl⟩, rfl⟩
        | exact ⟨.inr ⟨by unfold isC; omega, rfl⟩, rfl⟩
    · skip
      refine xl_pure rfl rfl rfl (pv_pick_t (v := .bool _) rfl rfl rfl) ?_
      refine xl_pure rfl rfl rfl (pv_assign (v := .bool _) rfl rfl) ?_
      refine xl_nil ?_
      refine xthen_normal ?_
      refine xc_ret ?_
      refine fin_ret (res1 (v := .bool _) rfl rfl) ?_
      first
        | exact ⟨.inl ⟨by unfold isC; omega, rfl⟩, rfl⟩
        | exact ⟨.inr ⟨by unfold isC; omega, rfl⟩, rfl⟩
  · skip
    refine xl_pure rfl rfl rfl (pv_move (v := .bool _) rfl rfl) ?_
    refine xl_skip rfl rfl rfl ?_
    refine xl_skip rfl rfl rfl ?_
    refine xl_pure rfl rfl rfl (pv_pick_f (v := .bool _) rfl rfl rfl) ?_
    refine xl_pure rfl rfl rfl (pv_assign (v := .bool _) rfl rfl) ?_
    refine xl_nil ?_
    refine xthen_normal ?_
    refine xc_ret ?_
    refine fin_ret (res1 (v := .bool _) rfl rfl) ?_
    first
      | exact ⟨.inl ⟨by unfold isC; omega, rfl⟩, rfl⟩
      | exact ⟨.inr ⟨by unfold isC; omega, rfl⟩, rfl⟩

theorem gIs {O : Outer} {H : Heap} (n : Int) :
    FnC Try.prog 45 #[.int .i64 n] O H (fun v H' => ((isR n ∧ v = .bool true ∨ ¬ isR n ∧ v = .bool false) ∧ H = H')) := by
  refine fn_enter (A := [.int .i64 n]) Try.func45 rfl rfl ?_
  have hX := Ext.refl H
  refine xc_seq ?_
  refine xc_region ?_
  refine xl_pure rfl rfl rfl (pv_assign (v := .bool _) rfl rfl) ?_
  refine xl_nil ?_
  refine xthen_normal ?_
  refine xc_seq ?_
  refine xc_region ?_
  refine xl_pure rfl rfl rfl (pv_move (v := .int _ _) rfl rfl) ?_
  refine xl_dec rfl rfl rfl (pv_geq rfl rfl rfl) (fun h1_1 => ?_) (fun h1_1 => ?_)
  · skip
    refine xl_pure rfl rfl rfl (pv_move (v := .bool _) rfl rfl) ?_
    refine xl_pure rfl rfl rfl (pv_move (v := .int _ _) rfl rfl) ?_
    refine xl_dec rfl rfl rfl (pv_lss rfl rfl rfl) (fun h1_4 => ?_) (fun h1_4 => ?_)
    · skip
      refine xl_pure rfl rfl rfl (pv_pick_t (v := .bool _) rfl rfl rfl) ?_
      refine xl_pure rfl rfl rfl (pv_assign (v := .bool _) rfl rfl) ?_
      refine xl_nil ?_
      refine xthen_normal ?_
      refine xc_ret ?_
      refine fin_ret (res1 (v := .bool _) rfl rfl) ?_
      first
        | exact ⟨.inl ⟨by unfold isR; omega, rfl⟩, rfl⟩
        | exact ⟨.inr ⟨by unfold isR; omega, rfl⟩, rfl⟩
    · skip
      refine xl_pure rfl rfl rfl (pv_pick_t (v := .bool _) rfl rfl rfl) ?_
      refine xl_pure rfl rfl rfl (pv_assign (v := .bool _) rfl rfl) ?_
      refine xl_nil ?_
      refine xthen_normal ?_
      refine xc_ret ?_
      refine fin_ret (res1 (v := .bool _) rfl rfl) ?_
      first
        | exact ⟨.inl ⟨by unfold isR; omega, rfl⟩, rfl⟩
        | exact ⟨.inr ⟨by unfold isR; omega, rfl⟩, rfl⟩
  · skip
    refine xl_pure rfl rfl rfl (pv_move (v := .bool _) rfl rfl) ?_
    refine xl_skip rfl rfl rfl ?_
    refine xl_skip rfl rfl rfl ?_
    refine xl_pure rfl rfl rfl (pv_pick_f (v := .bool _) rfl rfl rfl) ?_
    refine xl_pure rfl rfl rfl (pv_assign (v := .bool _) rfl rfl) ?_
    refine xl_nil ?_
    refine xthen_normal ?_
    refine xc_ret ?_
    refine fin_ret (res1 (v := .bool _) rfl rfl) ?_
    first
      | exact ⟨.inl ⟨by unfold isR; omega, rfl⟩, rfl⟩
      | exact ⟨.inr ⟨by unfold isR; omega, rfl⟩, rfl⟩

theorem rMay {O : Outer} {H : Heap} (n : Int) :
    FnC Try.prog 32 #[.int .i64 n] O H (fun v H' => ((isR n ∧ v = .bool true ∨ ¬ isR n ∧ v = .bool false) ∧ H = H')) := by
  refine fn_enter (A := [.int .i64 n]) Try.func32 rfl rfl ?_
  have hX := Ext.refl H
  refine xc_seq ?_
  refine xc_region ?_
  refine xl_pure rfl rfl rfl (pv_assign (v := .bool _) rfl rfl) ?_
  refine xl_nil ?_
  refine xthen_normal ?_
  refine xc_seq ?_
  refine xc_region ?_
  refine xl_pure rfl rfl rfl (pv_move (v := .int _ _) rfl rfl) ?_
  refine xl_dec rfl rfl rfl (pv_geq rfl rfl rfl) (fun h1_1 => ?_) (fun h1_1 => ?_)
  · skip
    refine xl_pure rfl rfl rfl (pv_move (v := .bool _) rfl rfl) ?_
    refine xl_pure rfl rfl rfl (pv_move (v := .int _ _) rfl rfl) ?_
    refine xl_dec rfl rfl rfl (pv_leq rfl rfl rfl) (fun h1_4 => ?_) (fun h1_4 => ?_)
    · skip
      refine xl_pure rfl rfl rfl (pv_pick_t (v := .bool _) rfl rfl rfl) ?_
      refine xl_pure rfl rfl rfl (pv_assign (v := .bool _) rfl rfl) ?_
      refine xl_nil ?_
      refine xthen_normal ?_
      refine xc_ret ?_
      refine fin_ret (res1 (v := .bool _) rfl rfl) ?_
      first
        | exact ⟨.inl ⟨by unfold isR; omega, rfl⟩, rfl⟩
        | exact ⟨.inr ⟨by unfold isR; omega, rfl⟩, rfl⟩
    · skip
      refine xl_pure rfl rfl rfl (pv_pick_t (v := .bool _) rfl rfl rfl) ?_
      refine xl_pure rfl rfl rfl (pv_assign (v := .bool _) rfl rfl) ?_
      refine xl_nil ?_
      refine xthen_normal ?_
      refine xc_ret ?_
      refine fin_ret (res1 (v := .bool _) rfl rfl) ?_
      first
        | exact ⟨.inl ⟨by unfold isR; omega, rfl⟩, rfl⟩
        | exact ⟨.inr ⟨by unfold isR; omega, rfl⟩, rfl⟩
  · skip
    refine xl_pure rfl rfl rfl (pv_move (v := .bool _) rfl rfl) ?_
    refine xl_skip rfl rfl rfl ?_
    refine xl_skip rfl rfl rfl ?_
    refine xl_pure rfl rfl rfl (pv_pick_f (v := .bool _) rfl rfl rfl) ?_
    refine xl_pure rfl rfl rfl (pv_assign (v := .bool _) rfl rfl) ?_
    refine xl_nil ?_
    refine xthen_normal ?_
    refine xc_ret ?_
    refine fin_ret (res1 (v := .bool _) rfl rfl) ?_
    first
      | exact ⟨.inl ⟨by unfold isR; omega, rfl⟩, rfl⟩
      | exact ⟨.inr ⟨by unfold isR; omega, rfl⟩, rfl⟩

theorem gCheck0 {O : Outer} {H : Heap} (n : Int) :
    FnC Try.prog 27 #[.int .i64 n] O H (fun v H' => ((isR n ∧ v = .int .i64 0 ∨ ¬ isR n ∧ v = .int .i64 1) ∧ H = H')) := by
  refine fn_enter (A := [.int .i64 n]) Try.func27 rfl rfl ?_
  have hX := Ext.refl H
  refine xc_seq ?_
  refine xc_region ?_
  refine xl_pure rfl rfl rfl (pv_assign (v := .int _ _) rfl rfl) ?_
  refine xl_nil ?_
  refine xthen_normal ?_
  refine xc_seq ?_
  refine xc_seq ?_
  refine xc_region ?_
  refine xl_pure rfl rfl rfl (pv_move (v := .int _ _) rfl rfl) ?_
  refine xl_heavy rfl rfl rfl (hv_call (g := 45) rfl rfl (gIs n) rfl) ?_
  rintro v1_1 H1_1 ⟨hv1_1, rfl⟩
  rcases hv1_1 with ⟨hi1_1, rfl⟩ | ⟨hi1_1, rfl⟩
  · skip
    refine xl_nil ?_
    refine xthen_normal ?_
    refine xc_cond_t rfl ?_
    refine xc_seq ?_
    refine xc_region ?_
    refine xl_pure rfl rfl rfl (pv_assign (v := .int _ _) rfl rfl) ?_
    refine xl_nil ?_
    refine xthen_normal ?_
    refine xc_ret ?_
    refine xthen_ret ?_
    refine fin_ret (res1 (v := .int _ _) rfl rfl) ?_
    exact ⟨.inl ⟨hi1_1, rfl⟩, rfl⟩
  · skip
    refine xl_nil ?_
    refine xthen_normal ?_
    refine xc_cond_f rfl ?_
    refine xc_skip ?_
    refine xthen_normal ?_
    refine xc_seq ?_
    refine xc_region ?_
    refine xl_pure rfl rfl rfl (pv_assign (v := .int _ _) rfl rfl) ?_
    refine xl_nil ?_
    refine xthen_normal ?_
    refine xc_ret ?_
    refine fin_ret (res1 (v := .int _ _) rfl rfl) ?_
    exact ⟨.inr ⟨hi1_1, rfl⟩, rfl⟩

theorem gLed1 {O : Outer} {H : Heap} (c r : Int) (hr : isR r) :
    FnC Try.prog 47 #[.agg #[.int .i64 c, .int .i64 r]] O H (fun v H' => ∃ b, v = .bool b ∧ (b = true ↔ r % 2 = 1) ∧ Ext H H') := by
  refine fn_enter (A := [.agg #[.int .i64 c, .int .i64 r]]) Try.func47 rfl rfl ?_
  have hX := Ext.refl H
  refine xc_seq ?_
  refine xc_region ?_
  refine xl_heavy rfl rfl rfl (hv_box rfl rfl) ?_
  rintro v0_0 H0_0 ⟨b0_0, rfl, hN0_0⟩
  have gb0_0 := hX.fresh hN0_0
  have hX := hX.trans hN0_0.ext
  have m0_0 := hN0_0.blk
  refine xl_pure rfl rfl rfl (pv_assign (v := .bool _) rfl rfl) ?_
  refine xl_nil ?_
  refine xthen_normal ?_
  refine xc_seq ?_
  refine xc_region ?_
  refine xl_pure rfl rfl rfl (pv_fieldAddr rfl rfl) ?_
  refine xl_light rfl rfl rfl (lv_load (v := .int _ _) rfl rfl (ld_blk m0_0 rfl)) ?_
  refine xl_pure rfl rfl rfl (pv_and (r := r % 2) rfl rfl rfl (and1i hr.1 (by have := hr.2; omega))) ?_
  refine xl_ndec rfl rfl rfl (pv_neq rfl rfl rfl) (fun h1_3 => ?_) (fun h1_3 => ?_)
  · skip
    refine xl_pure rfl rfl rfl (pv_assign (v := .bool _) rfl rfl) ?_
    refine xl_nil ?_
    refine xthen_normal ?_
    refine xc_ret ?_
    refine fin_ret (res1 (v := .bool _) rfl rfl) ?_
    first
      | exact ⟨true, rfl, ⟨fun _ => by omega, fun _ => rfl⟩, hX⟩
      | exact ⟨false, rfl, ⟨fun h => (by cases h), fun h => by omega⟩, hX⟩
  · skip
    refine xl_pure rfl rfl rfl (pv_assign (v := .bool _) rfl rfl) ?_
    refine xl_nil ?_
    refine xthen_normal ?_
    refine xc_ret ?_
    refine fin_ret (res1 (v := .bool _) rfl rfl) ?_
    first
      | exact ⟨true, rfl, ⟨fun _ => by omega, fun _ => rfl⟩, hX⟩
      | exact ⟨false, rfl, ⟨fun h => (by cases h), fun h => by omega⟩, hX⟩

theorem gLed1k {O : Outer} {H : Heap} (r : List Int) (hr : r.length = 2) (hk : isR (mo r)) :
    FnC Try.prog 47 #[.agg (ints r).toArray] O H (fun v H' => ∃ b, v = .bool b ∧ (b = true ↔ mo r % 2 = 1) ∧ Ext H H') := by
  match r, hr with
  | [c, q], _ => exact gLed1 c q hk
theorem gFind1k0 {r : List Int} (h : r.length = 2) : ∃ c q, r = [c, q] := by
  match r, h with
  | [c, q], _ => exact ⟨_, _, rfl⟩

theorem gIndex {O : Outer} {H : Heap} {a : Option Addr} {c : Nat} {l : List (List Int)} (hs : Rows H a 2 l) (hl : l.length < 1000000) (hok : ∀ r ∈ l, isR (mo r)) :
    FnC Try.prog 55 #[.slice a l.length c, .func (.func 47) #[] #[]] O H (fun v H' => ∃ i : Int, v = .int .i64 i ∧ (0 ≤ i ↔ ledR l = true) ∧ Ext H H') := by
  refine fn_enter (A := [.slice a l.length c, .func (.func 47) #[] #[]]) Try.func55 rfl rfl ?_
  have hX := Ext.refl H
  refine xc_seq ?_
  refine xc_region ?_
  refine xl_pure rfl rfl rfl (pv_assign (v := .int _ _) rfl rfl) ?_
  refine xl_nil ?_
  refine xthen_normal ?_
  refine xc_seq ?_
  refine xc_seq ?_
  refine xc_region ?_
  refine xl_pure rfl rfl rfl (pv_move (v := .slice _ _ _) rfl rfl) ?_
  refine xl_pure rfl rfl rfl (pv_len_l rfl rfl) ?_
  refine xl_pure rfl rfl rfl (pv_move (v := .int _ _) rfl rfl) ?_
  refine xl_nil ?_
  refine xthen_normal ?_
  refine xc_block ?_
  refine xc_loop (τ := Nat) (fun t => [(0, .slice a l.length c), (1, .func (.func 47) #[] #[]), (7, .int .i64 (l.length : Nat)), (8, .int .i64 (t : Nat))]) (fun t H' => (t ≤ l.length) ∧ (∀ j, j < t → ¬ mo (gr l j) % 2 = 1) ∧ (Ext H H')) (fun t H' => l.length - t) 0 ?_ ?_ ?_
  · exact ⟨rfl, rfl, rfl, rfl, trivial⟩
  · skip
    exact ⟨Nat.zero_le _, fun j hj => absurd hj (by omega), hX⟩
  · intro σ
    clear hX
    rintro k Hl2 ⟨hk, hno, hX⟩
    replace hk : k ≤ l.length := hk
    replace hno : ∀ j, j < k → ¬ mo (gr l j) % 2 = 1 := hno
    replace hX : Ext H Hl2 := hX
    obtain ⟨ba, off, hae⟩ := (hs.ext hX).at'
    show XC _ _ _ (upds σ [(0, .slice a l.length c), (1, .func (.func 47) #[] #[]), (7, .int .i64 (l.length : Nat)), (8, .int .i64 (k : Nat))]) _
    refine xc_seq ?_
    refine xc_region ?_
    refine xl_dec rfl rfl rfl (pv_lss rfl rfl rfl) (fun h2_0 => ?_) (fun h2_0 => ?_)
    · skip
      refine xl_nil ?_
      refine xthen_normal ?_
      refine xc_seq ?_
      refine xc_cond_t rfl ?_
      refine xc_skip ?_
      refine xthen_normal ?_
      refine xc_seq ?_
      refine xc_block ?_
      refine xc_seq ?_
      refine xc_region ?_
      refine xl_pure rfl rfl rfl (pv_move (v := .int _ _) rfl rfl) ?_
      refine xl_pure rfl rfl rfl (pv_assign (v := .int _ _) rfl rfl) ?_
      refine xl_nil ?_
      refine xthen_normal ?_
      refine xc_seq ?_
      refine xc_region ?_
      refine xl_pure rfl rfl rfl (pv_move rfl rfl) ?_
      refine xl_pure rfl rfl rfl (pv_move (v := .slice _ _ _) rfl rfl) ?_
      refine xl_pure rfl rfl rfl (pv_move (v := .int _ _) rfl rfl) ?_
      refine xl_pure rfl rfl rfl (pv_indexAddr_l rfl (sl_eq (hae (by omega)).1) rfl (by omega)) ?_
      refine xl_light rfl rfl rfl (lv_load (v := .agg _) rfl rfl (by exact ld_row' (hae (by omega)).2 hs.1 (by omega))) ?_
      refine xl_heavy rfl rfl rfl (hv_call (g := 47) rfl rfl (gLed1k (gr l k) (hs.1.get (by omega)) (hok _ (gr_mem (by omega)))) rfl) ?_
      rintro v4_5 H4_5 ⟨b4_5, rfl, hb4_5, hE4_5⟩
      have hX := hX.trans hE4_5
      cases b4_5
      · skip
        refine xl_nil ?_
        refine xthen_normal ?_
        refine xc_cond_f rfl ?_
        refine xc_skip ?_
        refine xblock_normal ?_
        refine xthen_normal ?_
        refine xc_region ?_
        refine xl_pure rfl rfl rfl (pv_add rfl rfl rfl (fit_i64 (by omega))) ?_
        refine xl_pure rfl rfl rfl (pv_move (v := .int _ _) rfl rfl) ?_
        refine xl_nil ?_
        refine xthen_normal ?_
        exact ⟨k + 1, ⟨rfl, rfl, rfl, rfl, trivial⟩, ⟨by (try simp only); omega, all_next hno (fun h => by have h2 := hb4_5.2 h; cases h2), hX⟩, by (try simp only); omega⟩
      · skip
        refine xl_nil ?_
        refine xthen_normal ?_
        refine xc_cond_t rfl ?_
        refine xc_seq ?_
        refine xc_region ?_
        refine xl_pure rfl rfl rfl (pv_move (v := .int _ _) rfl rfl) ?_
        refine xl_pure rfl rfl rfl (pv_assign (v := .int _ _) rfl rfl) ?_
        refine xl_nil ?_
        refine xthen_normal ?_
        refine xc_ret ?_
        refine xblock_ret ?_
        refine xthen_ret ?_
        refine xthen_ret ?_
        refine xblock_ret ?_
        refine xthen_ret ?_
        refine fin_ret (res1 (v := .int _ _) rfl rfl) ?_
        exact ⟨_, rfl, ⟨fun _ => led_true (i := k) (by omega) (hb4_5.1 rfl), fun _ => by omega⟩, hX⟩
    · skip
      refine xl_nil ?_
      refine xthen_normal ?_
      refine xc_seq ?_
      refine xc_cond_f rfl ?_
      refine xc_exit ?_
      refine xthen_exit ?_
      refine xthen_exit ?_
      refine xblock_same ?_
      refine xthen_normal ?_
      refine xc_seq ?_
      refine xc_region ?_
      refine xl_pure rfl rfl rfl (pv_assign (v := .int _ _) rfl rfl) ?_
      refine xl_nil ?_
      refine xthen_normal ?_
      refine xc_ret ?_
      refine fin_ret (res1 (v := .int _ _) rfl rfl) ?_
      exact ⟨_, rfl, ⟨fun h => absurd h (by decide), fun h => by rw [led_false (fun j hj => hno j (by omega))] at h; cases h⟩, hX⟩

theorem gContains {O : Outer} {H : Heap} {a : Option Addr} {c : Nat} {l : List (List Int)} (hs : Rows H a 2 l) (hl : l.length < 1000000) (hok : ∀ r ∈ l, isR (mo r)) :
    FnC Try.prog 46 #[.slice a l.length c, .func (.func 47) #[] #[]] O H (fun v H' => v = .bool (ledR l) ∧ Ext H H') := by
  refine fn_enter (A := [.slice a l.length c, .func (.func 47) #[] #[]]) Try.func46 rfl rfl ?_
  have hX := Ext.refl H
  refine xc_seq ?_
  refine xc_region ?_
  refine xl_pure rfl rfl rfl (pv_assign (v := .bool _) rfl rfl) ?_
  refine xl_nil ?_
  refine xthen_normal ?_
  refine xc_seq ?_
  refine xc_region ?_
  refine xl_pure rfl rfl rfl (pv_move (v := .slice _ _ _) rfl rfl) ?_
  refine xl_pure rfl rfl rfl (pv_move rfl rfl) ?_
  refine xl_heavy rfl rfl rfl (hv_call (g := 55) rfl rfl (gIndex hs hl hok) rfl) ?_
  rintro v1_2 H1_2 ⟨i1_2, rfl, hi1_2, hE1_2⟩
  have hX := hX.trans hE1_2
  refine xl_dec rfl rfl rfl (pv_geq rfl rfl rfl) (fun h1_3 => ?_) (fun h1_3 => ?_)
  · skip
    refine xl_pure rfl rfl rfl (pv_assign (v := .bool _) rfl rfl) ?_
    refine xl_nil ?_
    refine xthen_normal ?_
    refine xc_ret ?_
    refine fin_ret (res1 (v := .bool _) rfl rfl) ?_
    first
      | exact ⟨bv (hi1_2.1 (by omega)).symm, hX⟩
      | exact ⟨bv (by cases hh : ledR l; rfl; exact absurd (hi1_2.2 hh) (by omega)), hX⟩
  · skip
    refine xl_pure rfl rfl rfl (pv_assign (v := .bool _) rfl rfl) ?_
    refine xl_nil ?_
    refine xthen_normal ?_
    refine xc_ret ?_
    refine fin_ret (res1 (v := .bool _) rfl rfl) ?_
    first
      | exact ⟨bv (hi1_2.1 (by omega)).symm, hX⟩
      | exact ⟨bv (by cases hh : ledR l; rfl; exact absurd (hi1_2.2 hh) (by omega)), hX⟩

theorem gLed {O : Outer} {H : Heap} {a : Option Addr} {c : Nat} {l : List (List Int)} (hs : Rows H a 2 l) (hl : l.length < 1000000) (hok : ∀ r ∈ l, isR (mo r)) :
    FnC Try.prog 28 #[.slice a l.length c] O H (fun v H' => v = .bool (ledR l) ∧ Ext H H') := by
  refine fn_enter (A := [.slice a l.length c]) Try.func28 rfl rfl ?_
  have hX := Ext.refl H
  refine xc_seq ?_
  refine xc_region ?_
  refine xl_pure rfl rfl rfl (pv_assign (v := .bool _) rfl rfl) ?_
  refine xl_nil ?_
  refine xthen_normal ?_
  refine xc_seq ?_
  refine xc_region ?_
  refine xl_pure rfl rfl rfl (pv_move (v := .slice _ _ _) rfl rfl) ?_
  refine xl_heavy rfl rfl rfl (hv_call (g := 46) rfl rfl (gContains hs hl hok) rfl) ?_
  rintro v1_1 H1_1 ⟨rfl, hE1_1⟩
  have hX := hX.trans hE1_1
  refine xl_pure rfl rfl rfl (pv_assign (v := .bool _) rfl rfl) ?_
  refine xl_nil ?_
  refine xthen_normal ?_
  refine xc_ret ?_
  refine fin_ret (res1 (v := .bool _) rfl rfl) ?_
  exact ⟨rfl, hX⟩

theorem rLed {O : Outer} {H : Heap} {a : Option Addr} {c : Nat} {l : List (List Int)} (hs : Rows H a 2 l) (hl : l.length < 1000000) :
    FnC Try.prog 30 #[.slice a l.length c] O H (fun v H' => v = .bool (ledD l) ∧ H = H') := by
  refine fn_enter (A := [.slice a l.length c]) Try.func30 rfl rfl ?_
  have hX := Ext.refl H
  refine xc_seq ?_
  refine xc_region ?_
  refine xl_pure rfl rfl rfl (pv_assign (v := .bool _) rfl rfl) ?_
  refine xl_nil ?_
  refine xthen_normal ?_
  refine xc_seq ?_
  refine xc_seq ?_
  refine xc_region ?_
  refine xl_pure rfl rfl rfl (pv_assign (v := .int _ _) rfl rfl) ?_
  refine xl_nil ?_
  refine xthen_normal ?_
  refine xc_block ?_
  refine xc_loop (τ := Nat) (fun t => [(0, .slice a l.length c), (3, .int .i64 (t : Nat))]) (fun t H' => (t ≤ l.length) ∧ (∀ j, j < t → ¬ (isR (mo (gr l j)) ∧ mo (gr l j) % 2 = 1)) ∧ (H = H') ∧ (Ext H H')) (fun t H' => l.length - t) 0 ?_ ?_ ?_
  · exact ⟨rfl, rfl, trivial⟩
  · skip
    exact ⟨Nat.zero_le _, fun j hj => absurd hj (by omega), rfl, hX⟩
  · intro σ
    clear hX
    rintro k Hl2 ⟨hk, hno, heq, hX⟩
    replace hk : k ≤ l.length := hk
    replace hno : ∀ j, j < k → ¬ (isR (mo (gr l j)) ∧ mo (gr l j) % 2 = 1) := hno
    replace heq : H = Hl2 := heq
    replace hX : Ext H Hl2 := hX
    subst heq
    obtain ⟨ba, off, hae⟩ := (hs.ext hX).at'
    show XC _ _ _ (upds σ [(0, .slice a l.length c), (3, .int .i64 (k : Nat))]) _
    refine xc_seq ?_
    refine xc_seq ?_
    refine xc_region ?_
    refine xl_pure rfl rfl rfl (pv_move (v := .int _ _) rfl rfl) ?_
    refine xl_pure rfl rfl rfl (pv_move (v := .slice _ _ _) rfl rfl) ?_
    refine xl_pure rfl rfl rfl (pv_len_l rfl rfl) ?_
    refine xl_dec rfl rfl rfl (pv_lss rfl rfl rfl) (fun h2_3 => ?_) (fun h2_3 => ?_)
    · skip
      refine xl_nil ?_
      refine xthen_normal ?_
      refine xc_cond_t rfl ?_
      refine xc_skip ?_
      refine xthen_normal ?_
      refine xc_seq ?_
      refine xc_block ?_
      refine xc_seq ?_
      refine xc_region ?_
      refine xl_pure rfl rfl rfl (pv_move (v := .slice _ _ _) rfl rfl) ?_
      refine xl_pure rfl rfl rfl (pv_move (v := .int _ _) rfl rfl) ?_
      refine xl_pure rfl rfl rfl (pv_indexAddr_l rfl (sl_eq (hae (by omega)).1) rfl (by omega)) ?_
      refine xl_pure rfl rfl rfl (pv_fieldAddr rfl rfl) ?_
      refine xl_light rfl rfl rfl (lv_load (v := .int _ _) rfl rfl (by exact ld_num (j := 1) (hae (by omega)).2 hs.1 (by omega) (by decide))) ?_
      refine xl_heavy rfl rfl rfl (hv_call (g := 32) rfl rfl (rMay (mo (gr l k))) rfl) ?_
      rintro v4_5 H4_5 ⟨hv4_5, rfl⟩
      rcases hv4_5 with ⟨hi4_5, rfl⟩ | ⟨hi4_5, rfl⟩
      · skip
        refine xl_pure rfl rfl rfl (pv_move (v := .bool _) rfl rfl) ?_
        refine xl_pure rfl rfl rfl (pv_move (v := .slice _ _ _) rfl rfl) ?_
        refine xl_pure rfl rfl rfl (pv_move (v := .int _ _) rfl rfl) ?_
        refine xl_pure rfl rfl rfl (pv_indexAddr_l rfl (sl_eq (hae (by omega)).1) rfl (by omega)) ?_
        refine xl_pure rfl rfl rfl (pv_fieldAddr rfl rfl) ?_
        refine xl_light rfl rfl rfl (lv_load (v := .int _ _) rfl rfl (by exact ld_num (j := 1) (hae (by omega)).2 hs.1 (by omega) (by decide))) ?_
        refine xl_pure rfl rfl rfl (pv_rem rfl rfl rfl (by omega)) ?_
        refine xl_dec rfl rfl rfl (pv_eql rfl rfl rfl) (fun h4_13 => ?_) (fun h4_13 => ?_)
        · skip
          refine xl_pure rfl rfl rfl (pv_pick_t (v := .bool _) rfl rfl rfl) ?_
          refine xl_nil ?_
          refine xthen_normal ?_
          refine xc_cond_t rfl ?_
          refine xc_seq ?_
          refine xc_region ?_
          refine xl_pure rfl rfl rfl (pv_assign (v := .bool _) rfl rfl) ?_
          refine xl_nil ?_
          refine xthen_normal ?_
          refine xc_ret ?_
          refine xblock_ret ?_
          refine xthen_ret ?_
          refine xthen_ret ?_
          refine xblock_ret ?_
          refine xthen_ret ?_
          refine fin_ret (res1 (v := .bool _) rfl rfl) ?_
          exact ⟨bv (ledD_true (i := k) (by omega) hi4_5 ((tmod2 hi4_5).symm.trans h4_13)).symm, rfl⟩
        · skip
          refine xl_pure rfl rfl rfl (pv_pick_t (v := .bool _) rfl rfl rfl) ?_
          refine xl_nil ?_
          refine xthen_normal ?_
          refine xc_cond_f rfl ?_
          refine xc_skip ?_
          refine xblock_normal ?_
          refine xthen_normal ?_
          refine xc_region ?_
          refine xl_pure rfl rfl rfl (pv_move (v := .int _ _) rfl rfl) ?_
          refine xl_pure rfl rfl rfl (pv_add rfl rfl rfl (fit_i64 (by omega))) ?_
          refine xl_pure rfl rfl rfl (pv_assign (v := .int _ _) rfl rfl) ?_
          refine xl_nil ?_
          refine xthen_normal ?_
          first
            | exact ⟨k + 1, ⟨rfl, rfl, trivial⟩, ⟨by (try simp only); omega, all_next hno (fun h => hi4_5 h.1), rfl, hX⟩, by (try simp only); omega⟩
            | exact ⟨k + 1, ⟨rfl, rfl, trivial⟩, ⟨by (try simp only); omega, all_next hno (fun h => h4_13 ((tmod2 h.1).trans h.2)), rfl, hX⟩, by (try simp only); omega⟩
      · skip
        refine xl_pure rfl rfl rfl (pv_move (v := .bool _) rfl rfl) ?_
        refine xl_skip rfl rfl rfl ?_
        refine xl_skip rfl rfl rfl ?_
        refine xl_skip rfl rfl rfl ?_
        refine xl_skip rfl rfl rfl ?_
        refine xl_skip rfl rfl rfl ?_
        refine xl_skip rfl rfl rfl ?_
        refine xl_skip rfl rfl rfl ?_
        refine xl_pure rfl rfl rfl (pv_pick_f (v := .bool _) rfl rfl rfl) ?_
        refine xl_nil ?_
        refine xthen_normal ?_
        refine xc_cond_f rfl ?_
        refine xc_skip ?_
        refine xblock_normal ?_
        refine xthen_normal ?_
        refine xc_region ?_
        refine xl_pure rfl rfl rfl (pv_move (v := .int _ _) rfl rfl) ?_
        refine xl_pure rfl rfl rfl (pv_add rfl rfl rfl (fit_i64 (by omega))) ?_
        refine xl_pure rfl rfl rfl (pv_assign (v := .int _ _) rfl rfl) ?_
        refine xl_nil ?_
        refine xthen_normal ?_
        first
          | exact ⟨k + 1, ⟨rfl, rfl, trivial⟩, ⟨by (try simp only); omega, all_next hno (fun h => hi4_5 h.1), rfl, hX⟩, by (try simp only); omega⟩
          | exact ⟨k + 1, ⟨rfl, rfl, trivial⟩, ⟨by (try simp only); omega, all_next hno (fun h => h4_13 ((tmod2 h.1).trans h.2)), rfl, hX⟩, by (try simp only); omega⟩
    · skip
      refine xl_nil ?_
      refine xthen_normal ?_
      refine xc_cond_f rfl ?_
      refine xc_exit ?_
      refine xthen_exit ?_
      refine xthen_exit ?_
      refine xblock_same ?_
      refine xthen_normal ?_
      refine xc_seq ?_
      refine xc_region ?_
      refine xl_pure rfl rfl rfl (pv_assign (v := .bool _) rfl rfl) ?_
      refine xl_nil ?_
      refine xthen_normal ?_
      refine xc_ret ?_
      refine fin_ret (res1 (v := .bool _) rfl rfl) ?_
      exact ⟨bv (ledD_false (fun j hj => hno j (by omega))).symm, rfl⟩

theorem gFind1 {O : Outer} {H : Heap} (c r ch : Int) (h1 : isC c) (h2 : isC ch) :
    FnC Try.prog 52 #[.agg #[.int .i64 c, .int .i64 r], .int .i64 ch] O H (fun v H' => v = .int .i64 (c - ch) ∧ Ext H H') := by
  unfold isC at h1 h2
  refine fn_enter (A := [.agg #[.int .i64 c, .int .i64 r], .int .i64 ch]) Try.func52 rfl rfl ?_
  have hX := Ext.refl H
  refine xc_seq ?_
  refine xc_region ?_
  refine xl_heavy rfl rfl rfl (hv_box rfl rfl) ?_
  rintro v0_0 H0_0 ⟨b0_0, rfl, hN0_0⟩
  have gb0_0 := hX.fresh hN0_0
  have hX := hX.trans hN0_0.ext
  have m0_0 := hN0_0.blk
  refine xl_pure rfl rfl rfl (pv_assign (v := .int _ _) rfl rfl) ?_
  refine xl_nil ?_
  refine xthen_normal ?_
  refine xc_seq ?_
  refine xc_region ?_
  refine xl_pure rfl rfl rfl (pv_fieldAddr rfl rfl) ?_
  refine xl_light rfl rfl rfl (lv_load (v := .int _ _) rfl rfl (ld_blk m0_0 rfl)) ?_
  refine xl_pure rfl rfl rfl (pv_move (v := .int _ _) rfl rfl) ?_
  refine xl_pure rfl rfl rfl (pv_sub rfl rfl rfl (fit_i64 (by omega))) ?_
  refine xl_pure rfl rfl rfl (pv_assign (v := .int _ _) rfl rfl) ?_
  refine xl_nil ?_
  refine xthen_normal ?_
  refine xc_ret ?_
  refine fin_ret (res1 (v := .int _ _) rfl rfl) ?_
  exact ⟨rfl, hX⟩

theorem gFind1k {O : Outer} {H : Heap} (r : List Int) (hr : r.length = 2) (ch : Int) (h1 : isC (ow r)) (h2 : isC ch) :
    FnC Try.prog 52 #[.agg (ints r).toArray, .int .i64 ch] O H (fun v H' => v = .int .i64 (ow r - ch) ∧ Ext H H') := by
  match r, hr with
  | [c, q], _ => exact gFind1 c q ch h1 h2
theorem gr_lo {l : List (List Int)} {ch : Int} {h : Nat} (hs : Srt (tb l)) (hh : h < l.length) (h0 : ow (gr l h) - ch < 0) : ∀ x, x < h + 1 → ow (gr l x) < ch := fun x hx => by
  rcases Nat.lt_or_ge x h with h1 | h1
  · have := asc hs h1 hh; omega
  · have : x = h := by omega
    subst this; omega
theorem gr_hi {l : List (List Int)} {ch : Int} {h : Nat} (hs : Srt (tb l)) (hh : h < l.length) (h0 : ¬ ow (gr l h) - ch < 0) : ∀ x, h ≤ x → x < l.length → ch ≤ ow (gr l x) := fun x hx hl => by
  rcases Nat.lt_or_ge h x with h1 | h1
  · have := asc hs h1 hl; omega
  · have : x = h := by omega
    subst this; omega
theorem fhas_t {l : List (List Int)} {ch : Int} {i : Nat} (hs : Srt (tb l)) (hp : posM l ch = i) (hi : i < l.length) (h : ow (gr l i) - ch = 0) : true = hasM l ch := by
  have h2 : bel (tb l) [ch, 0, 0, 0] = i := hp
  exact ((has_at hs).2 (by rw [h2]; exact ⟨hi, by omega⟩)).symm
theorem fhas_f {l : List (List Int)} {ch : Int} {i : Nat} (hs : Srt (tb l)) (hp : posM l ch = i) (h : ¬ (i < l.length ∧ ow (gr l i) - ch = 0)) : false = hasM l ch := by
  cases hh : hasM l ch
  · rfl
  · obtain ⟨h1, h2⟩ := at_pos hs hh
    rw [hp] at h1 h2
    exact absurd ⟨h1, by omega⟩ h

theorem gBin {O : Outer} {H : Heap} {a : Option Addr} {c : Nat} {l : List (List Int)} (hs : Rows H a 2 l) (hm : MOk l) (ch : Int) (hch : isC ch) :
    FnC Try.prog 51 #[.slice a l.length c, .int .i64 ch, .func (.func 52) #[] #[]] O H (fun v H' => v = .tuple #[.int .i64 (posM l ch : Nat), .bool (hasM l ch)] ∧ Ext H H') := by
  have hl16 := mok_len hm
  refine fn_enter (A := [.slice a l.length c, .int .i64 ch, .func (.func 52) #[] #[]]) Try.func51 rfl rfl ?_
  have hX := Ext.refl H
  refine xc_seq ?_
  refine xc_region ?_
  refine xl_pure rfl rfl rfl (pv_assign (v := .int _ _) rfl rfl) ?_
  refine xl_pure rfl rfl rfl (pv_assign (v := .bool _) rfl rfl) ?_
  refine xl_nil ?_
  refine xthen_normal ?_
  refine xc_seq ?_
  refine xc_region ?_
  refine xl_pure rfl rfl rfl (pv_move (v := .slice _ _ _) rfl rfl) ?_
  refine xl_pure rfl rfl rfl (pv_len_l rfl rfl) ?_
  refine xl_pure rfl rfl rfl (pv_assign (v := .int _ _) rfl rfl) ?_
  refine xl_nil ?_
  refine xthen_normal ?_
  refine xc_seq ?_
  refine xc_region ?_
  refine xl_pure rfl rfl rfl (pv_move (v := .int _ _) rfl rfl) ?_
  refine xl_pure rfl rfl rfl (pv_assign (v := .int _ _) rfl rfl) ?_
  refine xl_pure rfl rfl rfl (pv_assign (v := .int _ _) rfl rfl) ?_
  refine xl_nil ?_
  refine xthen_normal ?_
  refine xc_seq ?_
  refine xc_block ?_
  refine xc_loop (τ := Nat × Nat) (fun t => [(0, .slice a l.length c), (1, .int .i64 ch), (2, .func (.func 52) #[] #[]), (8, .int .i64 (l.length : Nat)), (9, .int .i64 (t.1 : Nat)), (10, .int .i64 (t.2 : Nat))]) (fun t H' => (t.1 ≤ t.2) ∧ (t.2 ≤ l.length) ∧ (∀ x, x < t.1 → ow (gr l x) < ch) ∧ (∀ x, t.2 ≤ x → x < l.length → ch ≤ ow (gr l x)) ∧ (Ext H H')) (fun t H' => t.2 - t.1) (0, l.length) ?_ ?_ ?_
  · exact ⟨rfl, rfl, rfl, rfl, rfl, rfl, trivial⟩
  · skip
    exact ⟨Nat.zero_le _, Nat.le_refl _, fun x hx => absurd hx (by omega), fun x h1 h2 => absurd h1 (by omega), hX⟩
  · intro σ
    clear hX
    rintro ⟨i, j⟩ Hl3 ⟨hij, hj, hlo, hhi, hX⟩
    replace hij : i ≤ j := hij
    replace hj : j ≤ l.length := hj
    replace hlo : ∀ x, x < i → ow (gr l x) < ch := hlo
    replace hhi : ∀ x, j ≤ x → x < l.length → ch ≤ ow (gr l x) := hhi
    replace hX : Ext H Hl3 := hX
    show XC _ _ _ (upds σ [(0, .slice a l.length c), (1, .int .i64 ch), (2, .func (.func 52) #[] #[]), (8, .int .i64 (l.length : Nat)), (9, .int .i64 (i : Nat)), (10, .int .i64 (j : Nat))]) _
    refine xc_seq ?_
    refine xc_seq ?_
    refine xc_region ?_
    refine xl_pure rfl rfl rfl (pv_move (v := .int _ _) rfl rfl) ?_
    refine xl_pure rfl rfl rfl (pv_move (v := .int _ _) rfl rfl) ?_
    refine xl_dec rfl rfl rfl (pv_lss rfl rfl rfl) (fun h3_2 => ?_) (fun h3_2 => ?_)
    · skip
      refine xl_nil ?_
      refine xthen_normal ?_
      refine xc_cond_t rfl ?_
      refine xc_skip ?_
      refine xthen_normal ?_
      refine xc_block ?_
      refine xc_seq ?_
      refine xc_region ?_
      refine xl_pure rfl rfl rfl (pv_move (v := .int _ _) rfl rfl) ?_
      refine xl_pure rfl rfl rfl (pv_move (v := .int _ _) rfl rfl) ?_
      refine xl_pure rfl rfl rfl (pv_add rfl rfl rfl (fit_i64 (by omega))) ?_
      refine xl_pure rfl rfl rfl (pv_conv rfl rfl (fit_u64 (by omega))) ?_
      refine xl_pure rfl rfl rfl (pv_shr (r := (((i + j) / 2 : Nat) : Int)) rfl rfl rfl (by omega) (shr1 i j)) ?_
      refine xl_pure rfl rfl rfl (pv_conv rfl rfl (fit_i64 (by omega))) ?_
      refine xl_pure rfl rfl rfl (pv_assign (v := .int _ _) rfl rfl) ?_
      refine xl_nil ?_
      refine xthen_normal ?_
      refine xc_seq ?_
      obtain ⟨ba, off, hae⟩ := (hs.ext hX).at'
      refine xc_region ?_
      refine xl_pure rfl rfl rfl (pv_move rfl rfl) ?_
      refine xl_pure rfl rfl rfl (pv_move (v := .slice _ _ _) rfl rfl) ?_
      refine xl_pure rfl rfl rfl (pv_move (v := .int _ _) rfl rfl) ?_
      refine xl_pure rfl rfl rfl (pv_indexAddr_l rfl (sl_eq (hae (by omega)).1) rfl (by omega)) ?_
      refine xl_light rfl rfl rfl (lv_load (v := .agg _) rfl rfl (by exact ld_row' (hae (by omega)).2 hs.1 (by omega))) ?_
      refine xl_pure rfl rfl rfl (pv_move (v := .int _ _) rfl rfl) ?_
      refine xl_heavy rfl rfl rfl (hv_call (g := 52) rfl rfl (gFind1k (gr l ((i + j) / 2)) (hs.1.get (by omega)) ch (hm.ok _ (gr_mem (by omega))).1 hch) rfl) ?_
      rintro v5_6 H5_6 ⟨rfl, hE5_6⟩
      have hX := hX.trans hE5_6
      refine xl_dec rfl rfl rfl (pv_lss rfl rfl rfl) (fun h5_7 => ?_) (fun h5_7 => ?_)
      · skip
        refine xl_nil ?_
        refine xthen_normal ?_
        refine xc_cond_t rfl ?_
        refine xc_region ?_
        refine xl_pure rfl rfl rfl (pv_move (v := .int _ _) rfl rfl) ?_
        refine xl_pure rfl rfl rfl (pv_add rfl rfl rfl (fit_i64 (by omega))) ?_
        refine xl_pure rfl rfl rfl (pv_assign (v := .int _ _) rfl rfl) ?_
        refine xl_nil ?_
        refine xblock_normal ?_
        refine xthen_normal ?_
        first
          | exact ⟨((i + j) / 2 + 1, j), ⟨rfl, rfl, rfl, rfl, rfl, rfl, trivial⟩, ⟨by (try simp only); omega, by (try simp only); omega, gr_lo hm.srt (by omega) h5_7, hhi, hX⟩, by (try simp only); omega⟩
          | exact ⟨(i, (i + j) / 2), ⟨rfl, rfl, rfl, rfl, rfl, rfl, trivial⟩, ⟨by (try simp only); omega, by (try simp only); omega, hlo, gr_hi hm.srt (by omega) h5_7, hX⟩, by (try simp only); omega⟩
      · skip
        refine xl_nil ?_
        refine xthen_normal ?_
        refine xc_cond_f rfl ?_
        refine xc_region ?_
        refine xl_pure rfl rfl rfl (pv_move (v := .int _ _) rfl rfl) ?_
        refine xl_pure rfl rfl rfl (pv_assign (v := .int _ _) rfl rfl) ?_
        refine xl_nil ?_
        refine xblock_normal ?_
        refine xthen_normal ?_
        first
          | exact ⟨((i + j) / 2 + 1, j), ⟨rfl, rfl, rfl, rfl, rfl, rfl, trivial⟩, ⟨by (try simp only); omega, by (try simp only); omega, gr_lo hm.srt (by omega) h5_7, hhi, hX⟩, by (try simp only); omega⟩
          | exact ⟨(i, (i + j) / 2), ⟨rfl, rfl, rfl, rfl, rfl, rfl, trivial⟩, ⟨by (try simp only); omega, by (try simp only); omega, hlo, gr_hi hm.srt (by omega) h5_7, hX⟩, by (try simp only); omega⟩
    · skip
      refine xl_nil ?_
      refine xthen_normal ?_
      refine xc_cond_f rfl ?_
      refine xc_exit ?_
      refine xthen_exit ?_
      refine xthen_exit ?_
      refine xblock_same ?_
      refine xthen_normal ?_
      refine xc_seq ?_
      obtain ⟨ba, off, hae⟩ := (hs.ext hX).at'
      have hbel : posM l ch = i := bel_at hm.srt (by omega) hlo (fun h => by have := hhi i (by omega) h; omega)
      refine xc_region ?_
      refine xl_pure rfl rfl rfl (pv_move (v := .int _ _) rfl rfl) ?_
      refine xl_pure rfl rfl rfl (pv_move (v := .int _ _) rfl rfl) ?_
      refine xl_pure rfl rfl rfl (pv_move (v := .int _ _) rfl rfl) ?_
      refine xl_dec rfl rfl rfl (pv_lss rfl rfl rfl) (fun h8_3 => ?_) (fun h8_3 => ?_)
      · skip
        refine xl_pure rfl rfl rfl (pv_move (v := .bool _) rfl rfl) ?_
        refine xl_pure rfl rfl rfl (pv_move rfl rfl) ?_
        refine xl_pure rfl rfl rfl (pv_move (v := .slice _ _ _) rfl rfl) ?_
        refine xl_pure rfl rfl rfl (pv_move (v := .int _ _) rfl rfl) ?_
        refine xl_pure rfl rfl rfl (pv_indexAddr_l rfl (sl_eq (hae (by omega)).1) rfl (by omega)) ?_
        refine xl_light rfl rfl rfl (lv_load (v := .agg _) rfl rfl (by exact ld_row' (hae (by omega)).2 hs.1 (by omega))) ?_
        refine xl_pure rfl rfl rfl (pv_move (v := .int _ _) rfl rfl) ?_
        refine xl_heavy rfl rfl rfl (hv_call (g := 52) rfl rfl (gFind1k (gr l i) (hs.1.get (by omega)) ch (hm.ok _ (gr_mem (by omega))).1 hch) rfl) ?_
        rintro v8_11 H8_11 ⟨rfl, hE8_11⟩
        have hX := hX.trans hE8_11
        refine xl_dec rfl rfl rfl (pv_eql rfl rfl rfl) (fun h8_12 => ?_) (fun h8_12 => ?_)
        · skip
          refine xl_pure rfl rfl rfl (pv_pick_t (v := .bool _) rfl rfl rfl) ?_
          refine xl_pure rfl rfl rfl (pv_assign (v := .int _ _) rfl rfl) ?_
          refine xl_pure rfl rfl rfl (pv_assign (v := .bool _) rfl rfl) ?_
          refine xl_nil ?_
          refine xthen_normal ?_
          refine xc_ret ?_
          refine fin_ret (res2 (v := .int _ _) (x := .bool _) rfl rfl rfl) ?_
          first
            | exact ⟨tup2 (by rw [hbel]) (fhas_t hm.srt hbel (by omega) h8_12), hX⟩
            | exact ⟨tup2 (by rw [hbel]) (fhas_f hm.srt hbel (fun h => h8_12 h.2)), hX⟩
            | exact ⟨tup2 (by rw [hbel]) (fhas_f hm.srt hbel (fun h => absurd h.1 (by omega))), hX⟩
        · skip
          refine xl_pure rfl rfl rfl (pv_pick_t (v := .bool _) rfl rfl rfl) ?_
          refine xl_pure rfl rfl rfl (pv_assign (v := .int _ _) rfl rfl) ?_
          refine xl_pure rfl rfl rfl (pv_assign (v := .bool _) rfl rfl) ?_
          refine xl_nil ?_
          refine xthen_normal ?_
          refine xc_ret ?_
          refine fin_ret (res2 (v := .int _ _) (x := .bool _) rfl rfl rfl) ?_
          first
            | exact ⟨tup2 (by rw [hbel]) (fhas_t hm.srt hbel (by omega) h8_12), hX⟩
            | exact ⟨tup2 (by rw [hbel]) (fhas_f hm.srt hbel (fun h => h8_12 h.2)), hX⟩
            | exact ⟨tup2 (by rw [hbel]) (fhas_f hm.srt hbel (fun h => absurd h.1 (by omega))), hX⟩
      · skip
        refine xl_pure rfl rfl rfl (pv_move (v := .bool _) rfl rfl) ?_
        refine xl_skip rfl rfl rfl ?_
        refine xl_skip rfl rfl rfl ?_
        refine xl_skip rfl rfl rfl ?_
        refine xl_skip rfl rfl rfl ?_
        refine xl_skip rfl rfl rfl ?_
        refine xl_skip rfl rfl rfl ?_
        refine xl_skip rfl rfl rfl ?_
        refine xl_skip rfl rfl rfl ?_
        refine xl_pure rfl rfl rfl (pv_pick_f (v := .bool _) rfl rfl rfl) ?_
        refine xl_pure rfl rfl rfl (pv_assign (v := .int _ _) rfl rfl) ?_
        refine xl_pure rfl rfl rfl (pv_assign (v := .bool _) rfl rfl) ?_
        refine xl_nil ?_
        refine xthen_normal ?_
        refine xc_ret ?_
        refine fin_ret (res2 (v := .int _ _) (x := .bool _) rfl rfl rfl) ?_
        first
          | exact ⟨tup2 (by rw [hbel]) (fhas_t hm.srt hbel (by omega) h8_12), hX⟩
          | exact ⟨tup2 (by rw [hbel]) (fhas_f hm.srt hbel (fun h => h8_12 h.2)), hX⟩
          | exact ⟨tup2 (by rw [hbel]) (fhas_f hm.srt hbel (fun h => absurd h.1 (by omega))), hX⟩

theorem gFind {O : Outer} {H : Heap} {a : Option Addr} {c : Nat} {l : List (List Int)} (hs : Rows H a 2 l) (hm : MOk l) (ch : Int) (hch : isC ch) :
    FnC Try.prog 41 #[.slice a l.length c, .int .i64 ch] O H (fun v H' => v = .tuple #[.int .i64 (posM l ch : Nat), .bool (hasM l ch)] ∧ Ext H H') := by
  refine fn_enter (A := [.slice a l.length c, .int .i64 ch]) Try.func41 rfl rfl ?_
  have hX := Ext.refl H
  refine xc_seq ?_
  refine xc_region ?_
  refine xl_pure rfl rfl rfl (pv_assign (v := .int _ _) rfl rfl) ?_
  refine xl_pure rfl rfl rfl (pv_assign (v := .bool _) rfl rfl) ?_
  refine xl_nil ?_
  refine xthen_normal ?_
  refine xc_seq ?_
  refine xc_region ?_
  refine xl_pure rfl rfl rfl (pv_move (v := .slice _ _ _) rfl rfl) ?_
  refine xl_pure rfl rfl rfl (pv_move (v := .int _ _) rfl rfl) ?_
  refine xl_heavy rfl rfl rfl (hv_call (g := 51) rfl rfl (gBin hs hm ch hch) rfl) ?_
  rintro v1_2 H1_2 ⟨rfl, hE1_2⟩
  have hX := hX.trans hE1_2
  refine xl_pure rfl rfl rfl (pv_extract (v := .int _ _) rfl rfl rfl) ?_
  refine xl_pure rfl rfl rfl (pv_extract (v := .bool _) rfl rfl rfl) ?_
  refine xl_pure rfl rfl rfl (pv_assign (v := .int _ _) rfl rfl) ?_
  refine xl_pure rfl rfl rfl (pv_assign (v := .bool _) rfl rfl) ?_
  refine xl_nil ?_
  refine xthen_normal ?_
  refine xc_ret ?_
  refine fin_ret (res2 (v := .int _ _) (x := .bool _) rfl rfl rfl) ?_
  exact ⟨rfl, hX⟩
end Go.XG
