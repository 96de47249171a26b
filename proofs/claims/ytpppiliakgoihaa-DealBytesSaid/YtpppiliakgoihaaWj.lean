/-
  Walks of the seat's functions over the logic XG: each function, what it computes. Printed by a program out of wip/walks.py.
-/
import Derived.Test.YtpppiliakgoihaaI
import Derived.Test.YtpppiliakgoihaaG
import Derived.Test.YtpppiliakgoihaaP
import Derived.Test.YtpppiliakgoihaaWa
import Derived.Test.YtpppiliakgoihaaWb
import Derived.Test.YtpppiliakgoihaaWc
import Derived.Test.YtpppiliakgoihaaWd
import Derived.Test.YtpppiliakgoihaaQ
import Derived.Test.YtpppiliakgoihaaR
import Derived.Test.YtpppiliakgoihaaXg
import Derived.Test.YtpppiliakgoihaaWe
import Derived.Test.YtpppiliakgoihaaWf
import Derived.Test.YtpppiliakgoihaaWg
import Derived.Test.YtpppiliakgoihaaWh
import Derived.Test.YtpppiliakgoihaaWi
namespace Go.XG
open Go.Proofs
set_option maxRecDepth 4000
set_option maxHeartbeats 4000000
theorem c53 {O : Outer} {H : Heap} (l : List (List Int)) (a : Option Addr) (c : Nat) (hs : Rows H a 3 l) (hl : l.length < 4611686018427387904) (p : List Int → Bool) (g : Nat) [Has Try.prog g] (hf : ∀ (i : Nat) (H1 : Heap), i < l.length → FnC Try.prog g #[.agg (ints (gr l i)).toArray] O H1 (fun v H' => v = .bool (p (gr l i)) ∧ Ext H1 H')) :
    FnC Try.prog 53 #[.slice a l.length c, .func (.func g) #[] #[]] O H (fun v H' => ∃ i : Int, v = .int .i64 i ∧ (i = -1 ∧ (∀ j, j < l.length → p (gr l j) = false) ∨ ∃ n : Nat, n < l.length ∧ i = n ∧ p (gr l n) = true ∧ ∀ j, j < n → p (gr l j) = false) ∧ Ext H H') := by
  refine fn_enter (A := [.slice a l.length c, .func (.func g) #[] #[]]) Try.func53 rfl rfl ?_
  refine xc_seq ?_
  refine xc_region ?_
  refine xl_pure rfl rfl rfl (pv_assign (v := .int _ _) rfl rfl) ?_
  refine xl_nil ?_
  refine xthen_normal ?_
  refine xc_seq ?_
  refine xc_seq ?_
  refine xc_region ?_
  refine xl_pure rfl rfl rfl (pv_move (v := .slice _ _ _) rfl rfl) ?_
  refine xl_pure rfl rfl rfl (pv_len_l rfl rfl) ?_
  refine xl_pure rfl rfl rfl (pv_move (v := .int _ _) rfl rfl) ?_
  refine xl_nil ?_
  refine xthen_normal ?_
  refine xc_block ?_
  refine xc_loop (τ := Nat) (fun t => [(0, .slice a l.length c), (1, .func (.func g) #[] #[]), (7, .int .i64 (l.length : Nat)), (8, .int .i64 (t : Nat))]) (fun t H' => t ≤ l.length ∧ (∀ j, j < t → p (gr l j) = false) ∧ Ext H H') (fun t H' => l.length - t) 0 ?_ ?_ ?_
  · exact ⟨rfl, rfl, rfl, rfl, trivial⟩
  · skip
    exact ⟨Nat.zero_le _, fun j hj => absurd hj (by omega), Ext.refl _⟩
  · intro σ
    rintro k Hl ⟨hk, hno, hX⟩
    show XC _ _ _ (upds σ [(0, .slice a l.length c), (1, .func (.func g) #[] #[]), (7, .int .i64 (l.length : Nat)), (8, .int .i64 (k : Nat))]) _
    refine xc_seq ?_
    refine xc_region ?_
    refine xl_dec rfl rfl rfl (pv_lss rfl rfl rfl) (fun h2_0 => ?_) (fun h2_0 => ?_)
    · skip
      refine xl_nil ?_
      refine xthen_normal ?_
      refine xc_seq ?_
      refine xc_cond_t rfl ?_
      refine xc_skip ?_
      refine xthen_normal ?_
      refine xc_seq ?_
      refine xc_block ?_
      refine xc_seq ?_
      refine xc_region ?_
      refine xl_pure rfl rfl rfl (pv_move (v := .int _ _) rfl rfl) ?_
      refine xl_pure rfl rfl rfl (pv_assign (v := .int _ _) rfl rfl) ?_
      refine xl_nil ?_
      refine xthen_normal ?_
      refine xc_seq ?_
      obtain ⟨ba, off, hae, hsa⟩ := hs.2.resolve_left (by omega)
      subst hae
      refine xc_region ?_
      refine xl_pure rfl rfl rfl (pv_move rfl rfl) ?_
      refine xl_pure rfl rfl rfl (pv_move (v := .slice _ _ _) rfl rfl) ?_
      refine xl_pure rfl rfl rfl (pv_move (v := .int _ _) rfl rfl) ?_
      refine xl_pure rfl rfl rfl (pv_indexAddr_l rfl rfl rfl (by omega)) ?_
      refine xl_light rfl rfl rfl (lv_load (v := .agg _) rfl rfl (by first | exact ld_row' (i := k) (hsa.ext hX) hs.1 (by omega))) ?_
      refine xl_heavy rfl rfl rfl (hv_call (g := g) rfl rfl (hf k _ (by omega)) rfl) ?_
      rintro v4_5 H4_5 ⟨rfl, hE4_5⟩
      have hX := hX.trans hE4_5
      generalize hp4_5 : p (gr l k) = pk
      cases pk
      · skip
        refine xl_nil ?_
        refine xthen_normal ?_
        refine xc_cond_f rfl ?_
        refine xc_skip ?_
        refine xblock_normal ?_
        refine xthen_normal ?_
        refine xc_region ?_
        refine xl_pure rfl rfl rfl (pv_add rfl rfl rfl (fit_i64 (by omega))) ?_
        refine xl_pure rfl rfl rfl (pv_move (v := .int _ _) rfl rfl) ?_
        refine xl_nil ?_
        refine xthen_normal ?_
        exact ⟨k + 1, ⟨rfl, rfl, rfl, rfl, trivial⟩, ⟨by omega, fun j hj => by rcases Nat.lt_or_eq_of_le (Nat.le_of_lt_succ hj) with h | h; exact hno j h; subst h; exact hp4_5, hX⟩, by omega⟩
      · skip
        refine xl_nil ?_
        refine xthen_normal ?_
        refine xc_cond_t rfl ?_
        refine xc_seq ?_
        refine xc_region ?_
        refine xl_pure rfl rfl rfl (pv_move (v := .int _ _) rfl rfl) ?_
        refine xl_pure rfl rfl rfl (pv_assign (v := .int _ _) rfl rfl) ?_
        refine xl_nil ?_
        refine xthen_normal ?_
        refine xc_ret ?_
        refine xblock_ret ?_
        refine xthen_ret ?_
        refine xthen_ret ?_
        refine xblock_ret ?_
        refine xthen_ret ?_
        refine fin_ret (res1 (v := .int _ _) rfl rfl) ?_
        exact ⟨_, rfl, .inr ⟨k, by omega, rfl, hp4_5, hno⟩, hX⟩
    · skip
      refine xl_nil ?_
      refine xthen_normal ?_
      refine xc_seq ?_
      refine xc_cond_f rfl ?_
      refine xc_exit ?_
      refine xthen_exit ?_
      refine xthen_exit ?_
      refine xblock_same ?_
      refine xthen_normal ?_
      refine xc_seq ?_
      refine xc_region ?_
      refine xl_pure rfl rfl rfl (pv_assign (v := .int _ _) rfl rfl) ?_
      refine xl_nil ?_
      refine xthen_normal ?_
      refine xc_ret ?_
      refine fin_ret (res1 (v := .int _ _) rfl rfl) ?_
      exact ⟨_, rfl, .inl ⟨rfl, fun j hj => hno j (by omega)⟩, hX⟩
end Go.XG
