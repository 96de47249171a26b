/-
  Walks of the seat's functions over the logic XG: each function, what it computes. Printed by a program out of wip/walks.py.
-/
import Derived.Test.YtbcbgjikgilpcaaI
import Derived.Test.YtbcbgjikgilpcaaM
import Derived.Test.YtbcbgjikgilpcaaGc
import Derived.Test.YtbcbgjikgilpcaaWa
import Derived.Test.YtbcbgjikgilpcaaWb
import Derived.Test.YtbcbgjikgilpcaaWc
import Derived.Test.YtbcbgjikgilpcaaWd
import Derived.Test.YtbcbgjikgilpcaaWe
import Derived.Test.YtbcbgjikgilpcaaWf
import Derived.Test.YtbcbgjikgilpcaaWg
import Derived.Test.YtbcbgjikgilpcaaWh
import Derived.Test.YtbcbgjikgilpcaaWi
namespace Go.XG
open Go.Proofs
set_option maxRecDepth 4000
set_option maxHeartbeats 4000000
theorem gWho {O : Outer} {H : Heap} {bp B : Nat} {X : List (List (List Int))} (hg : GAt H bp B X) (hG : GOk X) (ch az n : Int) :
    FnC Try.prog 19 #[.pointer (some ⟨bp, 0, none⟩), .int .i64 ch, .int .i64 az, .int .i64 n] O H (fun v H' => ∃ a' c', v = .slice a' (whoI X ch az n 16).length c' ∧ Ints H' a' (whoI X ch az n 16) ∧ Ext H H') := by
  refine fn_enter (A := [.pointer (some ⟨bp, 0, none⟩), .int .i64 ch, .int .i64 az, .int .i64 n]) Try.func19 rfl rfl ?_
  have hX := Ext.refl H
  refine xc_seq ?_
  refine xc_region ?_
  refine xl_pure rfl rfl rfl (pv_assign (v := .slice _ _ _) rfl rfl) ?_
  refine xl_nil ?_
  refine xthen_normal ?_
  refine xc_seq ?_
  refine xc_region ?_
  refine xl_pure rfl rfl rfl (pv_assign (v := .slice _ _ _) rfl rfl) ?_
  refine xl_nil ?_
  refine xthen_normal ?_
  refine xc_seq ?_
  refine xc_seq ?_
  refine xc_region ?_
  refine xl_pure rfl rfl rfl (pv_assign (v := .int _ _) rfl rfl) ?_
  refine xl_nil ?_
  refine xthen_normal ?_
  refine xc_block ?_
  refine xc_loop (τ := Nat × Option Addr × Nat) (fun t => [(0, .pointer (some ⟨bp, 0, none⟩)), (1, .int .i64 ch), (2, .int .i64 az), (3, .int .i64 n), (9, .slice t.2.1 (whoI X ch az n t.1).length t.2.2), (10, .int .i64 ((t.1 : Int) + 1))]) (fun t H' => (t.1 ≤ 16) ∧ (Own H' H.size 3 1 (.slice t.2.1 (whoI X ch az n t.1).length t.2.2) (whoI X ch az n t.1).length (ints (whoI X ch az n t.1))) ∧ (Ext H H')) (fun t H' => 16 - t.1) (0, none, 0) ?_ ?_ ?_
  · exact ⟨rfl, rfl, rfl, rfl, rfl, rfl, trivial⟩
  · skip
    exact ⟨Nat.zero_le _, by simpa [ints, whoI] using Own.nil _ H.size 3 1, hX⟩
  · intro σ
    clear hX
    rintro ⟨k, va, vc⟩ Hl3 ⟨hk, ho, hX⟩
    replace hk : k ≤ 16 := hk
    replace ho : Own Hl3 H.size 3 1 (.slice va (whoI X ch az n k).length vc) (whoI X ch az n k).length (ints (whoI X ch az n k)) := ho
    replace hX : Ext H Hl3 := hX
    have hol := whoI_len X ch az n k
    show XC _ _ _ (upds σ [(0, .pointer (some ⟨bp, 0, none⟩)), (1, .int .i64 ch), (2, .int .i64 az), (3, .int .i64 n), (9, .slice va (whoI X ch az n k).length vc), (10, .int .i64 ((k : Int) + 1))]) _
    refine xc_seq ?_
    refine xc_seq ?_
    refine xc_region ?_
    refine xl_pure rfl rfl rfl (pv_move (v := .int _ _) rfl rfl) ?_
    refine xl_pure rfl rfl rfl (pv_move (v := .int _ _) rfl rfl) ?_
    refine xl_pure rfl rfl rfl (pv_min rfl rfl rfl) ?_
    refine xl_dec rfl rfl rfl (pv_leq rfl rfl rfl) (fun h3_3 => ?_) (fun h3_3 => ?_)
    · skip
      refine xl_nil ?_
      refine xthen_normal ?_
      refine xc_cond_t rfl ?_
      refine xc_skip ?_
      refine xthen_normal ?_
      refine xc_seq ?_
      refine xc_block ?_
      refine xc_seq ?_
      refine xc_region ?_
      refine xl_pure rfl rfl rfl (pv_move (v := .pointer _) rfl rfl) ?_
      refine xl_pure rfl rfl rfl (pv_move (v := .int _ _) rfl rfl) ?_
      refine xl_pure rfl rfl rfl (pv_move (v := .int _ _) rfl rfl) ?_
      refine xl_pure rfl rfl rfl (pv_move (v := .int _ _) rfl rfl) ?_
      refine xl_pure rfl rfl rfl (pv_move (v := .int _ _) rfl rfl) ?_
      refine xl_heavy rfl rfl rfl (hv_call (g := 12) rfl rfl (gMay (hg.ext hX) hG ch ((k : Int) + 1) az n) rfl) ?_
      rintro v5_5 H5_5 ⟨rfl, hE5_5⟩
      have ho := ho.ext hE5_5
      have hX := hX.trans hE5_5
      refine xl_dec rfl rfl rfl (pv_eql rfl rfl rfl) (fun h5_6 => ?_) (fun h5_6 => ?_)
      · skip
        refine xl_nil ?_
        refine xthen_normal ?_
        refine xc_cond_t rfl ?_
        refine xc_region ?_
        refine xl_pure rfl rfl rfl (pv_move (v := .slice _ _ _) rfl rfl) ?_
        refine xl_pure rfl rfl rfl (pv_move (v := .int _ _) rfl rfl) ?_
        refine xl_heavy rfl rfl rfl (hv_buildSlice (cs := [.int _ _]) rfl rfl rfl rfl rfl) ?_
        rintro v6_2 H6_2 ⟨b6_2, rfl, hN6_2⟩
        have gb6_2 := hX.fresh hN6_2
        have pm6_2_ho := ho.apartN hN6_2
        have ho := ho.ext hN6_2.ext
        have hX := hX.trans hN6_2.ext
        have m6_2 := hN6_2.blk
        refine xl_heavy rfl rfl rfl (hv_append (size := 1) rfl rfl ho rfl m6_2.row rfl (by simp [Value.oneCell']) rfl (by decide) (by omega) (by omega) hX.size) ?_
        rintro v6_3 H6_3 ⟨hO6_3, hG6_3, -, hB6_3⟩
        have hX := ho.grown hX hG6_3 (Nat.le_refl _)
        obtain ⟨a6_3, c6_3, rfl⟩ := hO6_3.val
        refine xl_pure rfl rfl rfl (pv_assign (v := .slice _ _ _) rfl rfl) ?_
        refine xl_nil ?_
        refine xblock_normal ?_
        refine xthen_normal ?_
        refine xc_region ?_
        refine xl_pure rfl rfl rfl (pv_move (v := .int _ _) rfl rfl) ?_
        refine xl_pure rfl rfl rfl (pv_add rfl rfl rfl (fit_i64 (by omega))) ?_
        refine xl_pure rfl rfl rfl (pv_assign (v := .int _ _) rfl rfl) ?_
        refine xl_nil ?_
        refine xthen_normal ?_
        first
          | exact ⟨(k + 1, _, _), ⟨rfl, rfl, rfl, rfl, slv (by rw [whoI_yes h5_6]; simp), rfl, trivial⟩, ⟨by (try simp only); omega, by rw [whoI_yes h5_6]; simpa [ints] using hO6_3, hX⟩, by (try simp only); omega⟩
          | exact ⟨(k + 1, _, _), ⟨rfl, rfl, rfl, rfl, slv (by rw [whoI_not h5_6]), rfl, trivial⟩, ⟨by (try simp only); omega, by rw [whoI_not h5_6]; exact ho, hX⟩, by (try simp only); omega⟩
      · skip
        refine xl_nil ?_
        refine xthen_normal ?_
        refine xc_cond_f rfl ?_
        refine xc_skip ?_
        refine xblock_normal ?_
        refine xthen_normal ?_
        refine xc_region ?_
        refine xl_pure rfl rfl rfl (pv_move (v := .int _ _) rfl rfl) ?_
        refine xl_pure rfl rfl rfl (pv_add rfl rfl rfl (fit_i64 (by omega))) ?_
        refine xl_pure rfl rfl rfl (pv_assign (v := .int _ _) rfl rfl) ?_
        refine xl_nil ?_
        refine xthen_normal ?_
        first
          | exact ⟨(k + 1, _, _), ⟨rfl, rfl, rfl, rfl, slv (by rw [whoI_yes h5_6]; simp), rfl, trivial⟩, ⟨by (try simp only); omega, by rw [whoI_yes h5_6]; simpa [ints] using hO6_3, hX⟩, by (try simp only); omega⟩
          | exact ⟨(k + 1, _, _), ⟨rfl, rfl, rfl, rfl, slv (by rw [whoI_not h5_6]), rfl, trivial⟩, ⟨by (try simp only); omega, by rw [whoI_not h5_6]; exact ho, hX⟩, by (try simp only); omega⟩
    · skip
      refine xl_nil ?_
      refine xthen_normal ?_
      refine xc_cond_f rfl ?_
      refine xc_exit ?_
      refine xthen_exit ?_
      refine xthen_exit ?_
      refine xblock_same ?_
      refine xthen_normal ?_
      refine xc_seq ?_
      refine xc_region ?_
      refine xl_pure rfl rfl rfl (pv_move (v := .slice _ _ _) rfl rfl) ?_
      refine xl_pure rfl rfl rfl (pv_assign (v := .slice _ _ _) rfl rfl) ?_
      refine xl_nil ?_
      refine xthen_normal ?_
      refine xc_ret ?_
      refine fin_ret (res1 (v := .slice _ _ _) rfl rfl) ?_
      have e := whoI_same (X := X) (ch := ch) (az := az) (n := n) (by omega) h3_3
      rw [← e]
      exact ⟨_, _, rfl, own_Ints ho, hX⟩

theorem rWho {O : Outer} {H : Heap} {a : Option Addr} {c B0 : Nat} {X : List (List (List Int))} (hD : DK H B0 a (tg X)) (hG : GOk X) (ch az n : Int) :
    FnC Try.prog 20 #[.slice a X.length c, .int .i64 ch, .int .i64 az, .int .i64 n] O H (fun v H' => ∃ a' c', v = .slice a' (whoI X ch az n 16).length c' ∧ Ints H' a' (whoI X ch az n 16) ∧ Ext H H') := by
  refine fn_enter (A := [.slice a X.length c, .int .i64 ch, .int .i64 az, .int .i64 n]) Try.func20 rfl rfl ?_
  have hX := Ext.refl H
  refine xc_seq ?_
  refine xc_region ?_
  refine xl_pure rfl rfl rfl (pv_assign (v := .slice _ _ _) rfl rfl) ?_
  refine xl_nil ?_
  refine xthen_normal ?_
  refine xc_seq ?_
  refine xc_region ?_
  refine xl_pure rfl rfl rfl (pv_assign (v := .slice _ _ _) rfl rfl) ?_
  refine xl_nil ?_
  refine xthen_normal ?_
  refine xc_seq ?_
  refine xc_seq ?_
  refine xc_region ?_
  refine xl_pure rfl rfl rfl (pv_assign (v := .int _ _) rfl rfl) ?_
  refine xl_nil ?_
  refine xthen_normal ?_
  refine xc_block ?_
  refine xc_loop (τ := Nat × Option Addr × Nat) (fun t => [(0, .slice a X.length c), (1, .int .i64 ch), (2, .int .i64 az), (3, .int .i64 n), (9, .slice t.2.1 (whoI X ch az n t.1).length t.2.2), (10, .int .i64 ((t.1 : Int) + 1))]) (fun t H' => (t.1 ≤ 16) ∧ (Own H' H.size 3 1 (.slice t.2.1 (whoI X ch az n t.1).length t.2.2) (whoI X ch az n t.1).length (ints (whoI X ch az n t.1))) ∧ (Ext H H')) (fun t H' => 16 - t.1) (0, none, 0) ?_ ?_ ?_
  · exact ⟨rfl, rfl, rfl, rfl, rfl, rfl, trivial⟩
  · skip
    exact ⟨Nat.zero_le _, by simpa [ints, whoI] using Own.nil _ H.size 3 1, hX⟩
  · intro σ
    clear hX
    rintro ⟨k, va, vc⟩ Hl3 ⟨hk, ho, hX⟩
    replace hk : k ≤ 16 := hk
    replace ho : Own Hl3 H.size 3 1 (.slice va (whoI X ch az n k).length vc) (whoI X ch az n k).length (ints (whoI X ch az n k)) := ho
    replace hX : Ext H Hl3 := hX
    have hol := whoI_len X ch az n k
    show XC _ _ _ (upds σ [(0, .slice a X.length c), (1, .int .i64 ch), (2, .int .i64 az), (3, .int .i64 n), (9, .slice va (whoI X ch az n k).length vc), (10, .int .i64 ((k : Int) + 1))]) _
    refine xc_seq ?_
    refine xc_seq ?_
    refine xc_region ?_
    refine xl_pure rfl rfl rfl (pv_move (v := .int _ _) rfl rfl) ?_
    refine xl_dec rfl rfl rfl (pv_leq rfl rfl rfl) (fun h3_1 => ?_) (fun h3_1 => ?_)
    · skip
      refine xl_nil ?_
      refine xthen_normal ?_
      refine xc_cond_t rfl ?_
      refine xc_skip ?_
      refine xthen_normal ?_
      refine xc_seq ?_
      refine xc_block ?_
      refine xc_seq ?_
      refine xc_region ?_
      refine xl_pure rfl rfl rfl (pv_move (v := .slice _ _ _) rfl rfl) ?_
      refine xl_pure rfl rfl rfl (pv_move (v := .int _ _) rfl rfl) ?_
      refine xl_pure rfl rfl rfl (pv_move (v := .int _ _) rfl rfl) ?_
      refine xl_pure rfl rfl rfl (pv_move (v := .int _ _) rfl rfl) ?_
      refine xl_pure rfl rfl rfl (pv_move (v := .int _ _) rfl rfl) ?_
      refine xl_heavy rfl rfl rfl (hv_call (g := 13) rfl rfl (rMayX (hD.ext hX) hG ch ((k : Int) + 1) az n) rfl) ?_
      rintro v5_5 H5_5 ⟨rfl, rfl⟩
      refine xl_dec rfl rfl rfl (pv_eql rfl rfl rfl) (fun h5_6 => ?_) (fun h5_6 => ?_)
      · skip
        refine xl_nil ?_
        refine xthen_normal ?_
        refine xc_cond_t rfl ?_
        refine xc_region ?_
        refine xl_pure rfl rfl rfl (pv_move (v := .slice _ _ _) rfl rfl) ?_
        refine xl_pure rfl rfl rfl (pv_move (v := .int _ _) rfl rfl) ?_
        refine xl_heavy rfl rfl rfl (hv_buildSlice (cs := [.int _ _]) rfl rfl rfl rfl rfl) ?_
        rintro v6_2 H6_2 ⟨b6_2, rfl, hN6_2⟩
        have gb6_2 := hX.fresh hN6_2
        have pm6_2_ho := ho.apartN hN6_2
        have ho := ho.ext hN6_2.ext
        have hX := hX.trans hN6_2.ext
        have m6_2 := hN6_2.blk
        refine xl_heavy rfl rfl rfl (hv_append (size := 1) rfl rfl ho rfl m6_2.row rfl (by simp [Value.oneCell']) rfl (by decide) (by omega) (by omega) hX.size) ?_
        rintro v6_3 H6_3 ⟨hO6_3, hG6_3, -, hB6_3⟩
        have hX := ho.grown hX hG6_3 (Nat.le_refl _)
        obtain ⟨a6_3, c6_3, rfl⟩ := hO6_3.val
        refine xl_pure rfl rfl rfl (pv_assign (v := .slice _ _ _) rfl rfl) ?_
        refine xl_nil ?_
        refine xblock_normal ?_
        refine xthen_normal ?_
        refine xc_region ?_
        refine xl_pure rfl rfl rfl (pv_move (v := .int _ _) rfl rfl) ?_
        refine xl_pure rfl rfl rfl (pv_add rfl rfl rfl (fit_i64 (by omega))) ?_
        refine xl_pure rfl rfl rfl (pv_assign (v := .int _ _) rfl rfl) ?_
        refine xl_nil ?_
        refine xthen_normal ?_
        first
          | exact ⟨(k + 1, _, _), ⟨rfl, rfl, rfl, rfl, slv (by rw [whoI_yes h5_6]; simp), rfl, trivial⟩, ⟨by (try simp only); omega, by rw [whoI_yes h5_6]; simpa [ints] using hO6_3, hX⟩, by (try simp only); omega⟩
          | exact ⟨(k + 1, _, _), ⟨rfl, rfl, rfl, rfl, slv (by rw [whoI_not h5_6]), rfl, trivial⟩, ⟨by (try simp only); omega, by rw [whoI_not h5_6]; exact ho, hX⟩, by (try simp only); omega⟩
      · skip
        refine xl_nil ?_
        refine xthen_normal ?_
        refine xc_cond_f rfl ?_
        refine xc_skip ?_
        refine xblock_normal ?_
        refine xthen_normal ?_
        refine xc_region ?_
        refine xl_pure rfl rfl rfl (pv_move (v := .int _ _) rfl rfl) ?_
        refine xl_pure rfl rfl rfl (pv_add rfl rfl rfl (fit_i64 (by omega))) ?_
        refine xl_pure rfl rfl rfl (pv_assign (v := .int _ _) rfl rfl) ?_
        refine xl_nil ?_
        refine xthen_normal ?_
        first
          | exact ⟨(k + 1, _, _), ⟨rfl, rfl, rfl, rfl, slv (by rw [whoI_yes h5_6]; simp), rfl, trivial⟩, ⟨by (try simp only); omega, by rw [whoI_yes h5_6]; simpa [ints] using hO6_3, hX⟩, by (try simp only); omega⟩
          | exact ⟨(k + 1, _, _), ⟨rfl, rfl, rfl, rfl, slv (by rw [whoI_not h5_6]), rfl, trivial⟩, ⟨by (try simp only); omega, by rw [whoI_not h5_6]; exact ho, hX⟩, by (try simp only); omega⟩
    · skip
      refine xl_nil ?_
      refine xthen_normal ?_
      refine xc_cond_f rfl ?_
      refine xc_exit ?_
      refine xthen_exit ?_
      refine xthen_exit ?_
      refine xblock_same ?_
      refine xthen_normal ?_
      refine xc_seq ?_
      refine xc_region ?_
      refine xl_pure rfl rfl rfl (pv_move (v := .slice _ _ _) rfl rfl) ?_
      refine xl_pure rfl rfl rfl (pv_assign (v := .slice _ _ _) rfl rfl) ?_
      refine xl_nil ?_
      refine xthen_normal ?_
      refine xc_ret ?_
      refine fin_ret (res1 (v := .slice _ _ _) rfl rfl) ?_
      obtain rfl : k = 16 := by omega
      exact ⟨_, _, rfl, own_Ints ho, hX⟩
end Go.XG
