/-
  Walks of the seat's functions over the logic XG: each function, what it computes. Printed by a program out of wip/walks.py.
-/
import Derived.Test.YtoabjfmegnjicaaI
import Derived.Test.YtoabjfmegnjicaaTo
import Derived.Test.YtoabjfmegnjicaaTa
import Derived.Test.YtoabjfmegnjicaaTb
import Derived.Test.YtoabjfmegnjicaaTc
import Derived.Test.YtoabjfmegnjicaaTd
import Derived.Test.YtoabjfmegnjicaaQ
import Derived.Test.YtoabjfmegnjicaaWa
import Derived.Test.YtoabjfmegnjicaaWb
namespace Go.XG
open Go.Proofs
set_option maxRecDepth 4000
set_option maxHeartbeats 4000000
theorem c39 {O : Outer} {H : Heap} {a : Option Addr} {c : Nat} {l : List (List Int)} (hx : RowsT H 74 5 a l) (hs : Srt l) (hl : l.length < 1000000) (k : List Int) (hk : k.length = 4) (n : Int) :
    FnC Try.prog 39 #[.slice a l.length c, .agg (ints k).toArray, .int .i64 n] O H (fun v H' => ∃ a' c', v = .slice a' (setB l k n).length c' ∧ RowsT H' 74 5 a' (setB l k n) ∧ Ext H H') := by
  have hw := hx.wide
  have hk5 : (k ++ [n]).length = 5 := by simp [hk]
  refine fn_enter (A := [.slice a l.length c, .agg (ints k).toArray, .int .i64 n]) Try.func39 rfl rfl ?_
  have hX := Ext.refl H
  refine xc_seq ?_
  refine xc_region ?_
  refine xl_heavy rfl rfl rfl (hv_box rfl rfl) ?_
  rintro v0_0 H0_0 ⟨b0_0, rfl, hN0_0⟩
  have gb0_0 := hX.fresh hN0_0
  have hX := hX.trans hN0_0.ext
  have m0_0 := hN0_0.blk
  refine xl_pure rfl rfl rfl (pv_assign (v := .slice _ _ _) rfl rfl) ?_
  refine xl_nil ?_
  refine xthen_normal ?_
  refine xc_seq ?_
  refine xc_region ?_
  refine xl_pure rfl rfl rfl (pv_assign (v := .slice _ _ _) rfl rfl) ?_
  refine xl_nil ?_
  refine xthen_normal ?_
  refine xc_seq ?_
  refine xc_region ?_
  refine xl_pure rfl rfl rfl (pv_move (v := .int _ _) rfl rfl) ?_
  refine xl_dec rfl rfl rfl (pv_eql rfl rfl rfl) (fun h2_1 => ?_) (fun h2_1 => ?_)
  · skip
    refine xl_pure rfl rfl rfl (pv_assign (v := .bool _) rfl rfl) ?_
    refine xl_nil ?_
    refine xthen_normal ?_
    refine xc_seq ?_
    refine xc_seq ?_
    refine xc_region ?_
    refine xl_pure rfl rfl rfl (pv_assign (v := .int _ _) rfl rfl) ?_
    refine xl_nil ?_
    refine xthen_normal ?_
    refine xc_block ?_
    refine xc_loop (τ := Nat × Bool × List (List Int) × Option Addr × Nat) (fun t => [(0, .slice a l.length c), (2, .int .i64 n), (4, .pointer (some ⟨b0_0, 0, none⟩)), (7, .slice t.2.2.2.1 t.2.2.1.length t.2.2.2.2), (8, .bool t.2.1), (9, .int .i64 (t.1 : Nat))]) (fun t H' => (t.1 ≤ l.length) ∧ (SetI l k n t.1 t.2.1 t.2.2.1) ∧ (Blk H' b0_0 (ints k) 23) ∧ (Own H' H.size 74 5 (.slice t.2.2.2.1 t.2.2.1.length t.2.2.2.2) t.2.2.1.length (fr t.2.2.1)) ∧ (Ext H H')) (fun t H' => l.length - t.1) (0, true, [], none, 0) ?_ ?_ ?_
    · exact ⟨rfl, rfl, rfl, rfl, rfl, rfl, trivial⟩
    · skip
      exact ⟨Nat.zero_le _, .inr (.inl ⟨rfl, h2_1, rfl⟩), m0_0, by simpa [fr] using Own.nil _ H.size 74 5, hX⟩
    · intro σ
      clear hX m0_0
      rintro ⟨i, dn, out, va, vc⟩ Hl4 ⟨hi, hI, m0_0, ho, hX⟩
      replace hi : i ≤ l.length := hi
      replace hI : SetI l k n i dn out := hI
      replace m0_0 : Blk Hl4 b0_0 (ints k) 23 := m0_0
      replace ho : Own Hl4 H.size 74 5 (.slice va out.length vc) out.length (fr out) := ho
      replace hX : Ext H Hl4 := hX
      obtain ⟨ba, off, hae⟩ := (hx.ext hX).at
      have hol := hI.len hi
      show XC _ _ _ (upds σ [(0, .slice a l.length c), (2, .int .i64 n), (4, .pointer (some ⟨b0_0, 0, none⟩)), (7, .slice va out.length vc), (8, .bool dn), (9, .int .i64 (i : Nat))]) _
      refine xc_seq ?_
      refine xc_seq ?_
      refine xc_region ?_
      refine xl_pure rfl rfl rfl (pv_move (v := .int _ _) rfl rfl) ?_
      refine xl_pure rfl rfl rfl (pv_move (v := .slice _ _ _) rfl rfl) ?_
      refine xl_pure rfl rfl rfl (pv_len_l rfl rfl) ?_
      refine xl_dec rfl rfl rfl (pv_lss rfl rfl rfl) (fun h4_3 => ?_) (fun h4_3 => ?_)
      · skip
        refine xl_nil ?_
        refine xthen_normal ?_
        refine xc_cond_t rfl ?_
        refine xc_skip ?_
        refine xthen_normal ?_
        refine xc_seq ?_
        refine xc_block ?_
        refine xc_seq ?_
        refine xc_seq ?_
        have hil : i < l.length := by omega
        have hr5 := hw.get hil
        have hk4 := ky_len hr5 (by decide)
        refine xp_start rfl (by repeat (first | with_reducible exact np_fin | with_reducible exact np_ret | with_reducible refine np_then ?_ | with_reducible refine np_block ?_)) (by kernel_rfl) ?_
        refine xp_pure (i := 0) rfl (by kernel_rfl) (by kernel_rfl) rfl rfl rfl (pv_move (v := .bool _) rfl rfl) ?_
        cases dn
        · skip
          refine xp_pure (i := 1) rfl (by kernel_rfl) (by kernel_rfl) rfl rfl rfl (pv_not rfl rfl) ?_
          refine xp_pure (i := 2) rfl (by kernel_rfl) (by kernel_rfl) rfl rfl rfl (pv_move (v := .bool _) rfl rfl) ?_
          refine xp_light (i := 3) rfl (by kernel_rfl) (by kernel_rfl) rfl rfl rfl (lv_load (v := .agg _) rfl rfl (by exact ld_ints m0_0 hk)) ?_
          refine xp_pure (i := 4) rfl (by kernel_rfl) (by kernel_rfl) rfl rfl rfl (pv_move (v := .slice _ _ _) rfl rfl) ?_
          refine xp_pure (i := 5) rfl (by kernel_rfl) (by kernel_rfl) rfl rfl rfl (pv_move (v := .int _ _) rfl rfl) ?_
          refine xp_pure (i := 6) rfl (by kernel_rfl) (by kernel_rfl) rfl rfl rfl (pv_indexAddr_l rfl (sl_eq (hae (by omega)).1) rfl (by omega)) ?_
          refine xp_pure (i := 7) rfl (by kernel_rfl) (by kernel_rfl) rfl rfl rfl (pv_fieldAddr rfl rfl) ?_
          refine xp_light (i := 8) rfl (by kernel_rfl) (by kernel_rfl) rfl rfl rfl (lv_load (v := .agg _) rfl rfl (by exact ld_rky (hae (by omega)).2 hw (by decide) (by omega))) ?_
          refine xp_heavy (i := 9) (by kernel_rfl) ?_
          refine xph_val rfl rfl rfl rfl (hv_call (g := 53) rfl rfl (c53k k (ky (gr l i)) hk hk4) rfl) (pd (by kernel_rfl) (pd (by kernel_rfl) pn)) ?_
          rintro v6_9 H6_9 ⟨hv6_9, hE6_9⟩
          have m0_0 := m0_0.ext hE6_9
          have ho := ho.ext hE6_9
          have hX := hX.trans hE6_9
          refine ⟨okn, ?_⟩
          rcases hv6_9 with ⟨hc6_9, rfl⟩ | ⟨hc6_9, rfl⟩
          · skip
            refine xp_pure (i := 10) rfl (by kernel_rfl) (by kernel_rfl) rfl rfl rfl (pv_pick_t (v := .bool _) rfl rfl rfl) ?_
            refine xp_done (by kernel_rfl) ?_
            refine xthen_normal ?_
            refine xc_cond_t rfl ?_
            refine xc_seq ?_
            refine xc_region ?_
            refine xl_pure rfl rfl rfl (pv_move (v := .slice _ _ _) rfl rfl) ?_
            refine xl_light rfl rfl rfl (lv_load (v := .agg _) rfl rfl (by exact ld_ints m0_0 hk)) ?_
            refine xl_pure rfl rfl rfl (pv_move (v := .int _ _) rfl rfl) ?_
            refine xl_pure rfl rfl rfl (pv_build_pair (xs := ints k) (ys := [.int .i64 n]) rfl rfl rfl rfl rfl (by rw [ints_ten hk]; rfl) (by rw [ints_ten hk]; rfl) (by rw [ints_ten hk]; rfl)) ?_
            refine xl_heavy rfl rfl rfl (hv_buildSlice (cs := ints (k ++ [n])) rfl rfl (by rw [← ints_app]; exact parts1 (by simp [ints, hk])) rfl rfl) ?_
            rintro v7_4 H7_4 ⟨b7_4, rfl, hN7_4⟩
            have gb7_4 := hX.fresh hN7_4
            have nm0_0_7_4 := m0_0.apart hN7_4
            have pm7_4_ho := ho.apartN hN7_4
            have m0_0 := m0_0.ext hN7_4.ext
            have ho := ho.ext hN7_4.ext
            have hX := hX.trans hN7_4.ext
            have m7_4 := hN7_4.blk
            refine xl_heavy rfl rfl rfl (hv_append (size := 5) rfl rfl ho rfl m7_4.row (by simpa using ints_ten hk5) (ints_mem _) rfl (by decide) (by omega) (by omega) hX.size) ?_
            rintro v7_5 H7_5 ⟨hO7_5, hG7_5, -, hB7_5⟩
            have m0_0 := m0_0.offT ho hG7_5 rfl
            have hX := ho.grown hX hG7_5 (Nat.le_refl _)
            obtain ⟨a7_5, c7_5, rfl⟩ := hO7_5.val
            refine xl_pure rfl rfl rfl (pv_assign (v := .slice _ _ _) rfl rfl) ?_
            refine xl_nil ?_
            refine xthen_normal ?_
            refine xc_region ?_
            refine xl_pure rfl rfl rfl (pv_assign (v := .bool _) rfl rfl) ?_
            refine xl_nil ?_
            refine xthen_normal ?_
            refine xc_seq ?_
            obtain ⟨ba, off, hae⟩ := (hx.ext hX).at
            refine xp_start rfl (by repeat (first | with_reducible exact np_fin | with_reducible exact np_ret | with_reducible refine np_then ?_ | with_reducible refine np_block ?_)) (by kernel_rfl) ?_
            refine xp_pure (i := 0) rfl (by kernel_rfl) (by kernel_rfl) rfl rfl rfl (pv_move (v := .slice _ _ _) rfl rfl) ?_
            refine xp_pure (i := 1) rfl (by kernel_rfl) (by kernel_rfl) rfl rfl rfl (pv_move (v := .int _ _) rfl rfl) ?_
            refine xp_pure (i := 2) rfl (by kernel_rfl) (by kernel_rfl) rfl rfl rfl (pv_indexAddr_l rfl (sl_eq (hae (by omega)).1) rfl (by omega)) ?_
            refine xp_pure (i := 3) rfl (by kernel_rfl) (by kernel_rfl) rfl rfl rfl (pv_fieldAddr rfl rfl) ?_
            refine xp_light (i := 4) rfl (by kernel_rfl) (by kernel_rfl) rfl rfl rfl (lv_load (v := .agg _) rfl rfl (by exact ld_rky (hae (by omega)).2 hw (by decide) (by omega))) ?_
            refine xp_light (i := 5) rfl (by kernel_rfl) (by kernel_rfl) rfl rfl rfl (lv_load (v := .agg _) rfl rfl (by exact ld_ints m0_0 hk)) ?_
            refine xp_ndec (i := 6) rfl (by kernel_rfl) (by kernel_rfl) rfl rfl rfl (pv_neq_g (ky (gr l i)) k rfl rfl rfl hk4 hk) (fun h9_6 => ?_) (fun h9_6 => ?_)
            · skip
              refine xp_done (by kernel_rfl) ?_
              refine xthen_normal ?_
              refine xc_cond_f rfl ?_
              refine xc_skip ?_
              refine xblock_normal ?_
              refine xthen_normal ?_
              refine xc_region ?_
              refine xl_pure rfl rfl rfl (pv_move (v := .int _ _) rfl rfl) ?_
              refine xl_pure rfl rfl rfl (pv_add rfl rfl rfl (fit_i64 (by omega))) ?_
              refine xl_pure rfl rfl rfl (pv_assign (v := .int _ _) rfl rfl) ?_
              refine xl_nil ?_
              refine xthen_normal ?_
              first
                | exact ⟨(i + 1, _, (out ++ [k ++ [n]] ++ [gr l i]), _, _), ⟨rfl, rfl, rfl, slv (by simp), rfl, rfl, trivial⟩, ⟨by (try simp only); omega, by have h := (hI.ins hs hw hk hil rfl hc6_9).row hs hw hk hil (fun h => by cases h); rw [if_pos h9_6] at h; exact h, m0_0, by simpa [fr_app, fr] using hO10_6, hX⟩, by (try simp only); omega⟩
                | exact ⟨(i + 1, _, (out ++ [k ++ [n]]), _, _), ⟨rfl, rfl, rfl, slv (by simp), rfl, rfl, trivial⟩, ⟨by (try simp only); omega, by have h := (hI.ins hs hw hk hil rfl hc6_9).row hs hw hk hil (fun h => by cases h); rw [if_neg (fun h2 => h2 h9_6), List.append_nil] at h; exact h, m0_0, by simpa [fr_app, fr] using hO7_5, hX⟩, by (try simp only); omega⟩
                | exact ⟨(i + 1, _, (out ++ [gr l i]), _, _), ⟨rfl, rfl, rfl, slv (by simp), rfl, rfl, trivial⟩, ⟨by (try simp only); omega, by have h := hI.row hs hw hk hil (by first | exact fun _ => hc6_9 | exact fun h => by cases h); rw [if_pos h9_6] at h; exact h, m0_0, by simpa [fr_app, fr] using hO10_6, hX⟩, by (try simp only); omega⟩
                | exact ⟨(i + 1, _, out, _, _), ⟨rfl, rfl, rfl, slv (by simp), rfl, rfl, trivial⟩, ⟨by (try simp only); omega, by have h := hI.row hs hw hk hil (by first | exact fun _ => hc6_9 | exact fun h => by cases h); rw [if_neg (fun h2 => h2 h9_6), List.append_nil] at h; exact h, m0_0, by simpa [fr_app, fr] using ho, hX⟩, by (try simp only); omega⟩
            · skip
              refine xp_done (by kernel_rfl) ?_
              refine xthen_normal ?_
              refine xc_cond_t rfl ?_
              obtain ⟨ba, off, hae⟩ := (hx.ext hX).at
              refine xc_region ?_
              refine xl_pure rfl rfl rfl (pv_move (v := .slice _ _ _) rfl rfl) ?_
              refine xl_pure rfl rfl rfl (pv_move (v := .slice _ _ _) rfl rfl) ?_
              refine xl_pure rfl rfl rfl (pv_move (v := .int _ _) rfl rfl) ?_
              refine xl_pure rfl rfl rfl (pv_indexAddr_l rfl (sl_eq (hae (by omega)).1) rfl (by omega)) ?_
              refine xl_light rfl rfl rfl (lv_load (v := .agg _) rfl rfl (by exact ld_row' (hae (by omega)).2 hw (by omega))) ?_
              refine xl_heavy rfl rfl rfl (hv_buildSlice (cs := ints (gr l i)) rfl rfl (parts1 (ints_ten hr5)) rfl rfl) ?_
              rintro v10_5 H10_5 ⟨b10_5, rfl, hN10_5⟩
              have gb10_5 := hX.fresh hN10_5
              have nm0_0_10_5 := m0_0.apart hN10_5
              have pm10_5_hO7_5 := hO7_5.apartN hN10_5
              have m0_0 := m0_0.ext hN10_5.ext
              have hO7_5 := hO7_5.ext hN10_5.ext
              have hX := hX.trans hN10_5.ext
              have m10_5 := hN10_5.blk
              refine xl_heavy rfl rfl rfl (hv_append (size := 5) rfl rfl hO7_5 rfl m10_5.row (by simpa using ints_ten hr5) (ints_mem _) rfl (by decide) (by omega) (by omega) hX.size) ?_
              rintro v10_6 H10_6 ⟨hO10_6, hG10_6, -, hB10_6⟩
              have m0_0 := m0_0.offT hO7_5 hG10_6 rfl
              have hX := hO7_5.grown hX hG10_6 (Nat.le_refl _)
              obtain ⟨a10_6, c10_6, rfl⟩ := hO10_6.val
              refine xl_pure rfl rfl rfl (pv_assign (v := .slice _ _ _) rfl rfl) ?_
              refine xl_nil ?_
              refine xblock_normal ?_
              refine xthen_normal ?_
              refine xc_region ?_
              refine xl_pure rfl rfl rfl (pv_move (v := .int _ _) rfl rfl) ?_
              refine xl_pure rfl rfl rfl (pv_add rfl rfl rfl (fit_i64 (by omega))) ?_
              refine xl_pure rfl rfl rfl (pv_assign (v := .int _ _) rfl rfl) ?_
              refine xl_nil ?_
              refine xthen_normal ?_
              first
                | exact ⟨(i + 1, _, (out ++ [k ++ [n]] ++ [gr l i]), _, _), ⟨rfl, rfl, rfl, slv (by simp), rfl, rfl, trivial⟩, ⟨by (try simp only); omega, by have h := (hI.ins hs hw hk hil rfl hc6_9).row hs hw hk hil (fun h => by cases h); rw [if_pos h9_6] at h; exact h, m0_0, by simpa [fr_app, fr] using hO10_6, hX⟩, by (try simp only); omega⟩
                | exact ⟨(i + 1, _, (out ++ [k ++ [n]]), _, _), ⟨rfl, rfl, rfl, slv (by simp), rfl, rfl, trivial⟩, ⟨by (try simp only); omega, by have h := (hI.ins hs hw hk hil rfl hc6_9).row hs hw hk hil (fun h => by cases h); rw [if_neg (fun h2 => h2 h9_6), List.append_nil] at h; exact h, m0_0, by simpa [fr_app, fr] using hO7_5, hX⟩, by (try simp only); omega⟩
                | exact ⟨(i + 1, _, (out ++ [gr l i]), _, _), ⟨rfl, rfl, rfl, slv (by simp), rfl, rfl, trivial⟩, ⟨by (try simp only); omega, by have h := hI.row hs hw hk hil (by first | exact fun _ => hc6_9 | exact fun h => by cases h); rw [if_pos h9_6] at h; exact h, m0_0, by simpa [fr_app, fr] using hO10_6, hX⟩, by (try simp only); omega⟩
                | exact ⟨(i + 1, _, out, _, _), ⟨rfl, rfl, rfl, slv (by simp), rfl, rfl, trivial⟩, ⟨by (try simp only); omega, by have h := hI.row hs hw hk hil (by first | exact fun _ => hc6_9 | exact fun h => by cases h); rw [if_neg (fun h2 => h2 h9_6), List.append_nil] at h; exact h, m0_0, by simpa [fr_app, fr] using ho, hX⟩, by (try simp only); omega⟩
          · skip
            refine xp_pure (i := 10) rfl (by kernel_rfl) (by kernel_rfl) rfl rfl rfl (pv_pick_t (v := .bool _) rfl rfl rfl) ?_
            refine xp_done (by kernel_rfl) ?_
            refine xthen_normal ?_
            refine xc_cond_f rfl ?_
            refine xc_skip ?_
            refine xthen_normal ?_
            refine xc_seq ?_
            obtain ⟨ba, off, hae⟩ := (hx.ext hX).at
            refine xp_start rfl (by repeat (first | with_reducible exact np_fin | with_reducible exact np_ret | with_reducible refine np_then ?_ | with_reducible refine np_block ?_)) (by kernel_rfl) ?_
            refine xp_pure (i := 0) rfl (by kernel_rfl) (by kernel_rfl) rfl rfl rfl (pv_move (v := .slice _ _ _) rfl rfl) ?_
            refine xp_pure (i := 1) rfl (by kernel_rfl) (by kernel_rfl) rfl rfl rfl (pv_move (v := .int _ _) rfl rfl) ?_
            refine xp_pure (i := 2) rfl (by kernel_rfl) (by kernel_rfl) rfl rfl rfl (pv_indexAddr_l rfl (sl_eq (hae (by omega)).1) rfl (by omega)) ?_
            refine xp_pure (i := 3) rfl (by kernel_rfl) (by kernel_rfl) rfl rfl rfl (pv_fieldAddr rfl rfl) ?_
            refine xp_light (i := 4) rfl (by kernel_rfl) (by kernel_rfl) rfl rfl rfl (lv_load (v := .agg _) rfl rfl (by exact ld_rky (hae (by omega)).2 hw (by decide) (by omega))) ?_
            refine xp_light (i := 5) rfl (by kernel_rfl) (by kernel_rfl) rfl rfl rfl (lv_load (v := .agg _) rfl rfl (by exact ld_ints m0_0 hk)) ?_
            refine xp_ndec (i := 6) rfl (by kernel_rfl) (by kernel_rfl) rfl rfl rfl (pv_neq_g (ky (gr l i)) k rfl rfl rfl hk4 hk) (fun h9_6 => ?_) (fun h9_6 => ?_)
            · skip
              refine xp_done (by kernel_rfl) ?_
              refine xthen_normal ?_
              refine xc_cond_f rfl ?_
              refine xc_skip ?_
              refine xblock_normal ?_
              refine xthen_normal ?_
              refine xc_region ?_
              refine xl_pure rfl rfl rfl (pv_move (v := .int _ _) rfl rfl) ?_
              refine xl_pure rfl rfl rfl (pv_add rfl rfl rfl (fit_i64 (by omega))) ?_
              refine xl_pure rfl rfl rfl (pv_assign (v := .int _ _) rfl rfl) ?_
              refine xl_nil ?_
              refine xthen_normal ?_
              first
                | exact ⟨(i + 1, _, (out ++ [k ++ [n]] ++ [gr l i]), _, _), ⟨rfl, rfl, rfl, slv (by simp), rfl, rfl, trivial⟩, ⟨by (try simp only); omega, by have h := (hI.ins hs hw hk hil rfl hc6_9).row hs hw hk hil (fun h => by cases h); rw [if_pos h9_6] at h; exact h, m0_0, by simpa [fr_app, fr] using hO10_6, hX⟩, by (try simp only); omega⟩
                | exact ⟨(i + 1, _, (out ++ [k ++ [n]]), _, _), ⟨rfl, rfl, rfl, slv (by simp), rfl, rfl, trivial⟩, ⟨by (try simp only); omega, by have h := (hI.ins hs hw hk hil rfl hc6_9).row hs hw hk hil (fun h => by cases h); rw [if_neg (fun h2 => h2 h9_6), List.append_nil] at h; exact h, m0_0, by simpa [fr_app, fr] using hO7_5, hX⟩, by (try simp only); omega⟩
                | exact ⟨(i + 1, _, (out ++ [gr l i]), _, _), ⟨rfl, rfl, rfl, slv (by simp), rfl, rfl, trivial⟩, ⟨by (try simp only); omega, by have h := hI.row hs hw hk hil (by first | exact fun _ => hc6_9 | exact fun h => by cases h); rw [if_pos h9_6] at h; exact h, m0_0, by simpa [fr_app, fr] using hO10_6, hX⟩, by (try simp only); omega⟩
                | exact ⟨(i + 1, _, out, _, _), ⟨rfl, rfl, rfl, slv (by simp), rfl, rfl, trivial⟩, ⟨by (try simp only); omega, by have h := hI.row hs hw hk hil (by first | exact fun _ => hc6_9 | exact fun h => by cases h); rw [if_neg (fun h2 => h2 h9_6), List.append_nil] at h; exact h, m0_0, by simpa [fr_app, fr] using ho, hX⟩, by (try simp only); omega⟩
            · skip
              refine xp_done (by kernel_rfl) ?_
              refine xthen_normal ?_
              refine xc_cond_t rfl ?_
              obtain ⟨ba, off, hae⟩ := (hx.ext hX).at
              refine xc_region ?_
              refine xl_pure rfl rfl rfl (pv_move (v := .slice _ _ _) rfl rfl) ?_
              refine xl_pure rfl rfl rfl (pv_move (v := .slice _ _ _) rfl rfl) ?_
              refine xl_pure rfl rfl rfl (pv_move (v := .int _ _) rfl rfl) ?_
              refine xl_pure rfl rfl rfl (pv_indexAddr_l rfl (sl_eq (hae (by omega)).1) rfl (by omega)) ?_
              refine xl_light rfl rfl rfl (lv_load (v := .agg _) rfl rfl (by exact ld_row' (hae (by omega)).2 hw (by omega))) ?_
              refine xl_heavy rfl rfl rfl (hv_buildSlice (cs := ints (gr l i)) rfl rfl (parts1 (ints_ten hr5)) rfl rfl) ?_
              rintro v10_5 H10_5 ⟨b10_5, rfl, hN10_5⟩
              have gb10_5 := hX.fresh hN10_5
              have nm0_0_10_5 := m0_0.apart hN10_5
              have pm10_5_ho := ho.apartN hN10_5
              have m0_0 := m0_0.ext hN10_5.ext
              have ho := ho.ext hN10_5.ext
              have hX := hX.trans hN10_5.ext
              have m10_5 := hN10_5.blk
              refine xl_heavy rfl rfl rfl (hv_append (size := 5) rfl rfl ho rfl m10_5.row (by simpa using ints_ten hr5) (ints_mem _) rfl (by decide) (by omega) (by omega) hX.size) ?_
              rintro v10_6 H10_6 ⟨hO10_6, hG10_6, -, hB10_6⟩
              have m0_0 := m0_0.offT ho hG10_6 rfl
              have hX := ho.grown hX hG10_6 (Nat.le_refl _)
              obtain ⟨a10_6, c10_6, rfl⟩ := hO10_6.val
              refine xl_pure rfl rfl rfl (pv_assign (v := .slice _ _ _) rfl rfl) ?_
              refine xl_nil ?_
              refine xblock_normal ?_
              refine xthen_normal ?_
              refine xc_region ?_
              refine xl_pure rfl rfl rfl (pv_move (v := .int _ _) rfl rfl) ?_
              refine xl_pure rfl rfl rfl (pv_add rfl rfl rfl (fit_i64 (by omega))) ?_
              refine xl_pure rfl rfl rfl (pv_assign (v := .int _ _) rfl rfl) ?_
              refine xl_nil ?_
              refine xthen_normal ?_
              first
                | exact ⟨(i + 1, _, (out ++ [k ++ [n]] ++ [gr l i]), _, _), ⟨rfl, rfl, rfl, slv (by simp), rfl, rfl, trivial⟩, ⟨by (try simp only); omega, by have h := (hI.ins hs hw hk hil rfl hc6_9).row hs hw hk hil (fun h => by cases h); rw [if_pos h9_6] at h; exact h, m0_0, by simpa [fr_app, fr] using hO10_6, hX⟩, by (try simp only); omega⟩
                | exact ⟨(i + 1, _, (out ++ [k ++ [n]]), _, _), ⟨rfl, rfl, rfl, slv (by simp), rfl, rfl, trivial⟩, ⟨by (try simp only); omega, by have h := (hI.ins hs hw hk hil rfl hc6_9).row hs hw hk hil (fun h => by cases h); rw [if_neg (fun h2 => h2 h9_6), List.append_nil] at h; exact h, m0_0, by simpa [fr_app, fr] using hO7_5, hX⟩, by (try simp only); omega⟩
                | exact ⟨(i + 1, _, (out ++ [gr l i]), _, _), ⟨rfl, rfl, rfl, slv (by simp), rfl, rfl, trivial⟩, ⟨by (try simp only); omega, by have h := hI.row hs hw hk hil (by first | exact fun _ => hc6_9 | exact fun h => by cases h); rw [if_pos h9_6] at h; exact h, m0_0, by simpa [fr_app, fr] using hO10_6, hX⟩, by (try simp only); omega⟩
                | exact ⟨(i + 1, _, out, _, _), ⟨rfl, rfl, rfl, slv (by simp), rfl, rfl, trivial⟩, ⟨by (try simp only); omega, by have h := hI.row hs hw hk hil (by first | exact fun _ => hc6_9 | exact fun h => by cases h); rw [if_neg (fun h2 => h2 h9_6), List.append_nil] at h; exact h, m0_0, by simpa [fr_app, fr] using ho, hX⟩, by (try simp only); omega⟩
        · skip
          refine xp_pure (i := 1) rfl (by kernel_rfl) (by kernel_rfl) rfl rfl rfl (pv_not rfl rfl) ?_
          refine xp_pure (i := 2) rfl (by kernel_rfl) (by kernel_rfl) rfl rfl rfl (pv_move (v := .bool _) rfl rfl) ?_
          refine xp_skip (i := 3) rfl (by kernel_rfl) (by kernel_rfl) rfl rfl rfl ?_
          refine xp_skip (i := 4) rfl (by kernel_rfl) (by kernel_rfl) rfl rfl rfl ?_
          refine xp_skip (i := 5) rfl (by kernel_rfl) (by kernel_rfl) rfl rfl rfl ?_
          refine xp_skip (i := 6) rfl (by kernel_rfl) (by kernel_rfl) rfl rfl rfl ?_
          refine xp_skip (i := 7) rfl (by kernel_rfl) (by kernel_rfl) rfl rfl rfl ?_
          refine xp_skip (i := 8) rfl (by kernel_rfl) (by kernel_rfl) rfl rfl rfl ?_
          refine xp_skip (i := 9) rfl (by kernel_rfl) (by kernel_rfl) rfl rfl rfl ?_
          refine xp_pure (i := 10) rfl (by kernel_rfl) (by kernel_rfl) rfl rfl rfl (pv_pick_f (v := .bool _) rfl rfl rfl) ?_
          refine xp_done (by kernel_rfl) ?_
          refine xthen_normal ?_
          refine xc_cond_f rfl ?_
          refine xc_skip ?_
          refine xthen_normal ?_
          refine xc_seq ?_
          obtain ⟨ba, off, hae⟩ := (hx.ext hX).at
          refine xp_start rfl (by repeat (first | with_reducible exact np_fin | with_reducible exact np_ret | with_reducible refine np_then ?_ | with_reducible refine np_block ?_)) (by kernel_rfl) ?_
          refine xp_pure (i := 0) rfl (by kernel_rfl) (by kernel_rfl) rfl rfl rfl (pv_move (v := .slice _ _ _) rfl rfl) ?_
          refine xp_pure (i := 1) rfl (by kernel_rfl) (by kernel_rfl) rfl rfl rfl (pv_move (v := .int _ _) rfl rfl) ?_
          refine xp_pure (i := 2) rfl (by kernel_rfl) (by kernel_rfl) rfl rfl rfl (pv_indexAddr_l rfl (sl_eq (hae (by omega)).1) rfl (by omega)) ?_
          refine xp_pure (i := 3) rfl (by kernel_rfl) (by kernel_rfl) rfl rfl rfl (pv_fieldAddr rfl rfl) ?_
          refine xp_light (i := 4) rfl (by kernel_rfl) (by kernel_rfl) rfl rfl rfl (lv_load (v := .agg _) rfl rfl (by exact ld_rky (hae (by omega)).2 hw (by decide) (by omega))) ?_
          refine xp_light (i := 5) rfl (by kernel_rfl) (by kernel_rfl) rfl rfl rfl (lv_load (v := .agg _) rfl rfl (by exact ld_ints m0_0 hk)) ?_
          refine xp_ndec (i := 6) rfl (by kernel_rfl) (by kernel_rfl) rfl rfl rfl (pv_neq_g (ky (gr l i)) k rfl rfl rfl hk4 hk) (fun h9_6 => ?_) (fun h9_6 => ?_)
          · skip
            refine xp_done (by kernel_rfl) ?_
            refine xthen_normal ?_
            refine xc_cond_f rfl ?_
            refine xc_skip ?_
            refine xblock_normal ?_
            refine xthen_normal ?_
            refine xc_region ?_
            refine xl_pure rfl rfl rfl (pv_move (v := .int _ _) rfl rfl) ?_
            refine xl_pure rfl rfl rfl (pv_add rfl rfl rfl (fit_i64 (by omega))) ?_
            refine xl_pure rfl rfl rfl (pv_assign (v := .int _ _) rfl rfl) ?_
            refine xl_nil ?_
            refine xthen_normal ?_
            first
              | exact ⟨(i + 1, _, (out ++ [k ++ [n]] ++ [gr l i]), _, _), ⟨rfl, rfl, rfl, slv (by simp), rfl, rfl, trivial⟩, ⟨by (try simp only); omega, by have h := (hI.ins hs hw hk hil rfl hc6_9).row hs hw hk hil (fun h => by cases h); rw [if_pos h9_6] at h; exact h, m0_0, by simpa [fr_app, fr] using hO10_6, hX⟩, by (try simp only); omega⟩
              | exact ⟨(i + 1, _, (out ++ [k ++ [n]]), _, _), ⟨rfl, rfl, rfl, slv (by simp), rfl, rfl, trivial⟩, ⟨by (try simp only); omega, by have h := (hI.ins hs hw hk hil rfl hc6_9).row hs hw hk hil (fun h => by cases h); rw [if_neg (fun h2 => h2 h9_6), List.append_nil] at h; exact h, m0_0, by simpa [fr_app, fr] using hO7_5, hX⟩, by (try simp only); omega⟩
              | exact ⟨(i + 1, _, (out ++ [gr l i]), _, _), ⟨rfl, rfl, rfl, slv (by simp), rfl, rfl, trivial⟩, ⟨by (try simp only); omega, by have h := hI.row hs hw hk hil (by first | exact fun _ => hc6_9 | exact fun h => by cases h); rw [if_pos h9_6] at h; exact h, m0_0, by simpa [fr_app, fr] using hO10_6, hX⟩, by (try simp only); omega⟩
              | exact ⟨(i + 1, _, out, _, _), ⟨rfl, rfl, rfl, slv (by simp), rfl, rfl, trivial⟩, ⟨by (try simp only); omega, by have h := hI.row hs hw hk hil (by first | exact fun _ => hc6_9 | exact fun h => by cases h); rw [if_neg (fun h2 => h2 h9_6), List.append_nil] at h; exact h, m0_0, by simpa [fr_app, fr] using ho, hX⟩, by (try simp only); omega⟩
          · skip
            refine xp_done (by kernel_rfl) ?_
            refine xthen_normal ?_
            refine xc_cond_t rfl ?_
            obtain ⟨ba, off, hae⟩ := (hx.ext hX).at
            refine xc_region ?_
            refine xl_pure rfl rfl rfl (pv_move (v := .slice _ _ _) rfl rfl) ?_
            refine xl_pure rfl rfl rfl (pv_move (v := .slice _ _ _) rfl rfl) ?_
            refine xl_pure rfl rfl rfl (pv_move (v := .int _ _) rfl rfl) ?_
            refine xl_pure rfl rfl rfl (pv_indexAddr_l rfl (sl_eq (hae (by omega)).1) rfl (by omega)) ?_
            refine xl_light rfl rfl rfl (lv_load (v := .agg _) rfl rfl (by exact ld_row' (hae (by omega)).2 hw (by omega))) ?_
            refine xl_heavy rfl rfl rfl (hv_buildSlice (cs := ints (gr l i)) rfl rfl (parts1 (ints_ten hr5)) rfl rfl) ?_
            rintro v10_5 H10_5 ⟨b10_5, rfl, hN10_5⟩
            have gb10_5 := hX.fresh hN10_5
            have nm0_0_10_5 := m0_0.apart hN10_5
            have pm10_5_ho := ho.apartN hN10_5
            have m0_0 := m0_0.ext hN10_5.ext
            have ho := ho.ext hN10_5.ext
            have hX := hX.trans hN10_5.ext
            have m10_5 := hN10_5.blk
            refine xl_heavy rfl rfl rfl (hv_append (size := 5) rfl rfl ho rfl m10_5.row (by simpa using ints_ten hr5) (ints_mem _) rfl (by decide) (by omega) (by omega) hX.size) ?_
            rintro v10_6 H10_6 ⟨hO10_6, hG10_6, -, hB10_6⟩
            have m0_0 := m0_0.offT ho hG10_6 rfl
            have hX := ho.grown hX hG10_6 (Nat.le_refl _)
            obtain ⟨a10_6, c10_6, rfl⟩ := hO10_6.val
            refine xl_pure rfl rfl rfl (pv_assign (v := .slice _ _ _) rfl rfl) ?_
            refine xl_nil ?_
            refine xblock_normal ?_
            refine xthen_normal ?_
            refine xc_region ?_
            refine xl_pure rfl rfl rfl (pv_move (v := .int _ _) rfl rfl) ?_
            refine xl_pure rfl rfl rfl (pv_add rfl rfl rfl (fit_i64 (by omega))) ?_
            refine xl_pure rfl rfl rfl (pv_assign (v := .int _ _) rfl rfl) ?_
            refine xl_nil ?_
            refine xthen_normal ?_
            first
              | exact ⟨(i + 1, _, (out ++ [k ++ [n]] ++ [gr l i]), _, _), ⟨rfl, rfl, rfl, slv (by simp), rfl, rfl, trivial⟩, ⟨by (try simp only); omega, by have h := (hI.ins hs hw hk hil rfl hc6_9).row hs hw hk hil (fun h => by cases h); rw [if_pos h9_6] at h; exact h, m0_0, by simpa [fr_app, fr] using hO10_6, hX⟩, by (try simp only); omega⟩
              | exact ⟨(i + 1, _, (out ++ [k ++ [n]]), _, _), ⟨rfl, rfl, rfl, slv (by simp), rfl, rfl, trivial⟩, ⟨by (try simp only); omega, by have h := (hI.ins hs hw hk hil rfl hc6_9).row hs hw hk hil (fun h => by cases h); rw [if_neg (fun h2 => h2 h9_6), List.append_nil] at h; exact h, m0_0, by simpa [fr_app, fr] using hO7_5, hX⟩, by (try simp only); omega⟩
              | exact ⟨(i + 1, _, (out ++ [gr l i]), _, _), ⟨rfl, rfl, rfl, slv (by simp), rfl, rfl, trivial⟩, ⟨by (try simp only); omega, by have h := hI.row hs hw hk hil (by first | exact fun _ => hc6_9 | exact fun h => by cases h); rw [if_pos h9_6] at h; exact h, m0_0, by simpa [fr_app, fr] using hO10_6, hX⟩, by (try simp only); omega⟩
              | exact ⟨(i + 1, _, out, _, _), ⟨rfl, rfl, rfl, slv (by simp), rfl, rfl, trivial⟩, ⟨by (try simp only); omega, by have h := hI.row hs hw hk hil (by first | exact fun _ => hc6_9 | exact fun h => by cases h); rw [if_neg (fun h2 => h2 h9_6), List.append_nil] at h; exact h, m0_0, by simpa [fr_app, fr] using ho, hX⟩, by (try simp only); omega⟩
      · skip
        refine xl_nil ?_
        refine xthen_normal ?_
        refine xc_cond_f rfl ?_
        refine xc_exit ?_
        refine xthen_exit ?_
        refine xthen_exit ?_
        refine xblock_same ?_
        refine xthen_normal ?_
        refine xc_seq ?_
        refine xc_seq ?_
        obtain rfl : i = l.length := by omega
        refine xc_region ?_
        refine xl_pure rfl rfl rfl (pv_move (v := .bool _) rfl rfl) ?_
        cases dn
        · skip
          refine xl_pure rfl rfl rfl (pv_not rfl rfl) ?_
          refine xl_nil ?_
          refine xthen_normal ?_
          refine xc_cond_t rfl ?_
          refine xc_region ?_
          refine xl_pure rfl rfl rfl (pv_move (v := .slice _ _ _) rfl rfl) ?_
          refine xl_light rfl rfl rfl (lv_load (v := .agg _) rfl rfl (by exact ld_ints m0_0 hk)) ?_
          refine xl_pure rfl rfl rfl (pv_move (v := .int _ _) rfl rfl) ?_
          refine xl_pure rfl rfl rfl (pv_build_pair (xs := ints k) (ys := [.int .i64 n]) rfl rfl rfl rfl rfl (by rw [ints_ten hk]; rfl) (by rw [ints_ten hk]; rfl) (by rw [ints_ten hk]; rfl)) ?_
          refine xl_heavy rfl rfl rfl (hv_buildSlice (cs := ints (k ++ [n])) rfl rfl (by rw [← ints_app]; exact parts1 (by simp [ints, hk])) rfl rfl) ?_
          rintro v12_4 H12_4 ⟨b12_4, rfl, hN12_4⟩
          have gb12_4 := hX.fresh hN12_4
          have nm0_0_12_4 := m0_0.apart hN12_4
          have pm12_4_ho := ho.apartN hN12_4
          have m0_0 := m0_0.ext hN12_4.ext
          have ho := ho.ext hN12_4.ext
          have hX := hX.trans hN12_4.ext
          have m12_4 := hN12_4.blk
          refine xl_heavy rfl rfl rfl (hv_append (size := 5) rfl rfl ho rfl m12_4.row (by simpa using ints_ten hk5) (ints_mem _) rfl (by decide) (by omega) (by omega) hX.size) ?_
          rintro v12_5 H12_5 ⟨hO12_5, hG12_5, -, hB12_5⟩
          have m0_0 := m0_0.offT ho hG12_5 rfl
          have hX := ho.grown hX hG12_5 (Nat.le_refl _)
          obtain ⟨a12_5, c12_5, rfl⟩ := hO12_5.val
          refine xl_pure rfl rfl rfl (pv_assign (v := .slice _ _ _) rfl rfl) ?_
          refine xl_nil ?_
          refine xthen_normal ?_
          refine xc_seq ?_
          refine xc_region ?_
          refine xl_pure rfl rfl rfl (pv_move (v := .slice _ _ _) rfl rfl) ?_
          refine xl_pure rfl rfl rfl (pv_assign (v := .slice _ _ _) rfl rfl) ?_
          refine xl_nil ?_
          refine xthen_normal ?_
          refine xc_ret ?_
          refine fin_ret (res1 (v := .slice _ _ _) rfl rfl) ?_
          have hdn := hI.done hs hw hk
          have hwo := hI.wide hw hk
          first
            | (rw [if_pos rfl] at hdn; exact ⟨a12_5, c12_5, slv (by rw [← hdn]; simp), by rw [← hdn]; exact own_rowsT (hwo.app fun r hr => by rw [List.mem_singleton] at hr; rw [hr]; exact hk5) (by simpa [fr_app, fr] using hO12_5), hX⟩)
            | (rw [if_neg (by decide)] at hdn; exact ⟨va, vc, slv (by rw [← hdn]), by rw [← hdn]; exact own_rowsT hwo ho, hX⟩)
        · skip
          refine xl_pure rfl rfl rfl (pv_not rfl rfl) ?_
          refine xl_nil ?_
          refine xthen_normal ?_
          refine xc_cond_f rfl ?_
          refine xc_skip ?_
          refine xthen_normal ?_
          refine xc_seq ?_
          refine xc_region ?_
          refine xl_pure rfl rfl rfl (pv_move (v := .slice _ _ _) rfl rfl) ?_
          refine xl_pure rfl rfl rfl (pv_assign (v := .slice _ _ _) rfl rfl) ?_
          refine xl_nil ?_
          refine xthen_normal ?_
          refine xc_ret ?_
          refine fin_ret (res1 (v := .slice _ _ _) rfl rfl) ?_
          have hdn := hI.done hs hw hk
          have hwo := hI.wide hw hk
          first
            | (rw [if_pos rfl] at hdn; exact ⟨a12_5, c12_5, slv (by rw [← hdn]; simp), by rw [← hdn]; exact own_rowsT (hwo.app fun r hr => by rw [List.mem_singleton] at hr; rw [hr]; exact hk5) (by simpa [fr_app, fr] using hO12_5), hX⟩)
            | (rw [if_neg (by decide)] at hdn; exact ⟨va, vc, slv (by rw [← hdn]), by rw [← hdn]; exact own_rowsT hwo ho, hX⟩)
  · skip
    refine xl_pure rfl rfl rfl (pv_assign (v := .bool _) rfl rfl) ?_
    refine xl_nil ?_
    refine xthen_normal ?_
    refine xc_seq ?_
    refine xc_seq ?_
    refine xc_region ?_
    refine xl_pure rfl rfl rfl (pv_assign (v := .int _ _) rfl rfl) ?_
    refine xl_nil ?_
    refine xthen_normal ?_
    refine xc_block ?_
    refine xc_loop (τ := Nat × Bool × List (List Int) × Option Addr × Nat) (fun t => [(0, .slice a l.length c), (2, .int .i64 n), (4, .pointer (some ⟨b0_0, 0, none⟩)), (7, .slice t.2.2.2.1 t.2.2.1.length t.2.2.2.2), (8, .bool t.2.1), (9, .int .i64 (t.1 : Nat))]) (fun t H' => (t.1 ≤ l.length) ∧ (SetI l k n t.1 t.2.1 t.2.2.1) ∧ (Blk H' b0_0 (ints k) 23) ∧ (Own H' H.size 74 5 (.slice t.2.2.2.1 t.2.2.1.length t.2.2.2.2) t.2.2.1.length (fr t.2.2.1)) ∧ (Ext H H')) (fun t H' => l.length - t.1) (0, false, [], none, 0) ?_ ?_ ?_
    · exact ⟨rfl, rfl, rfl, rfl, rfl, rfl, trivial⟩
    · skip
      exact ⟨Nat.zero_le _, .inl ⟨rfl, h2_1, Nat.zero_le _, rfl⟩, m0_0, by simpa [fr] using Own.nil _ H.size 74 5, hX⟩
    · intro σ
      clear hX m0_0
      rintro ⟨i, dn, out, va, vc⟩ Hl4 ⟨hi, hI, m0_0, ho, hX⟩
      replace hi : i ≤ l.length := hi
      replace hI : SetI l k n i dn out := hI
      replace m0_0 : Blk Hl4 b0_0 (ints k) 23 := m0_0
      replace ho : Own Hl4 H.size 74 5 (.slice va out.length vc) out.length (fr out) := ho
      replace hX : Ext H Hl4 := hX
      obtain ⟨ba, off, hae⟩ := (hx.ext hX).at
      have hol := hI.len hi
      show XC _ _ _ (upds σ [(0, .slice a l.length c), (2, .int .i64 n), (4, .pointer (some ⟨b0_0, 0, none⟩)), (7, .slice va out.length vc), (8, .bool dn), (9, .int .i64 (i : Nat))]) _
      refine xc_seq ?_
      refine xc_seq ?_
      refine xc_region ?_
      refine xl_pure rfl rfl rfl (pv_move (v := .int _ _) rfl rfl) ?_
      refine xl_pure rfl rfl rfl (pv_move (v := .slice _ _ _) rfl rfl) ?_
      refine xl_pure rfl rfl rfl (pv_len_l rfl rfl) ?_
      refine xl_dec rfl rfl rfl (pv_lss rfl rfl rfl) (fun h4_3 => ?_) (fun h4_3 => ?_)
      · skip
        refine xl_nil ?_
        refine xthen_normal ?_
        refine xc_cond_t rfl ?_
        refine xc_skip ?_
        refine xthen_normal ?_
        refine xc_seq ?_
        refine xc_block ?_
        refine xc_seq ?_
        refine xc_seq ?_
        have hil : i < l.length := by omega
        have hr5 := hw.get hil
        have hk4 := ky_len hr5 (by decide)
        refine xp_start rfl (by repeat (first | with_reducible exact np_fin | with_reducible exact np_ret | with_reducible refine np_then ?_ | with_reducible refine np_block ?_)) (by kernel_rfl) ?_
        refine xp_pure (i := 0) rfl (by kernel_rfl) (by kernel_rfl) rfl rfl rfl (pv_move (v := .bool _) rfl rfl) ?_
        cases dn
        · skip
          refine xp_pure (i := 1) rfl (by kernel_rfl) (by kernel_rfl) rfl rfl rfl (pv_not rfl rfl) ?_
          refine xp_pure (i := 2) rfl (by kernel_rfl) (by kernel_rfl) rfl rfl rfl (pv_move (v := .bool _) rfl rfl) ?_
          refine xp_light (i := 3) rfl (by kernel_rfl) (by kernel_rfl) rfl rfl rfl (lv_load (v := .agg _) rfl rfl (by exact ld_ints m0_0 hk)) ?_
          refine xp_pure (i := 4) rfl (by kernel_rfl) (by kernel_rfl) rfl rfl rfl (pv_move (v := .slice _ _ _) rfl rfl) ?_
          refine xp_pure (i := 5) rfl (by kernel_rfl) (by kernel_rfl) rfl rfl rfl (pv_move (v := .int _ _) rfl rfl) ?_
          refine xp_pure (i := 6) rfl (by kernel_rfl) (by kernel_rfl) rfl rfl rfl (pv_indexAddr_l rfl (sl_eq (hae (by omega)).1) rfl (by omega)) ?_
          refine xp_pure (i := 7) rfl (by kernel_rfl) (by kernel_rfl) rfl rfl rfl (pv_fieldAddr rfl rfl) ?_
          refine xp_light (i := 8) rfl (by kernel_rfl) (by kernel_rfl) rfl rfl rfl (lv_load (v := .agg _) rfl rfl (by exact ld_rky (hae (by omega)).2 hw (by decide) (by omega))) ?_
          refine xp_heavy (i := 9) (by kernel_rfl) ?_
          refine xph_val rfl rfl rfl rfl (hv_call (g := 53) rfl rfl (c53k k (ky (gr l i)) hk hk4) rfl) (pd (by kernel_rfl) (pd (by kernel_rfl) pn)) ?_
          rintro v6_9 H6_9 ⟨hv6_9, hE6_9⟩
          have m0_0 := m0_0.ext hE6_9
          have ho := ho.ext hE6_9
          have hX := hX.trans hE6_9
          refine ⟨okn, ?_⟩
          rcases hv6_9 with ⟨hc6_9, rfl⟩ | ⟨hc6_9, rfl⟩
          · skip
            refine xp_pure (i := 10) rfl (by kernel_rfl) (by kernel_rfl) rfl rfl rfl (pv_pick_t (v := .bool _) rfl rfl rfl) ?_
            refine xp_done (by kernel_rfl) ?_
            refine xthen_normal ?_
            refine xc_cond_t rfl ?_
            refine xc_seq ?_
            refine xc_region ?_
            refine xl_pure rfl rfl rfl (pv_move (v := .slice _ _ _) rfl rfl) ?_
            refine xl_light rfl rfl rfl (lv_load (v := .agg _) rfl rfl (by exact ld_ints m0_0 hk)) ?_
            refine xl_pure rfl rfl rfl (pv_move (v := .int _ _) rfl rfl) ?_
            refine xl_pure rfl rfl rfl (pv_build_pair (xs := ints k) (ys := [.int .i64 n]) rfl rfl rfl rfl rfl (by rw [ints_ten hk]; rfl) (by rw [ints_ten hk]; rfl) (by rw [ints_ten hk]; rfl)) ?_
            refine xl_heavy rfl rfl rfl (hv_buildSlice (cs := ints (k ++ [n])) rfl rfl (by rw [← ints_app]; exact parts1 (by simp [ints, hk])) rfl rfl) ?_
            rintro v7_4 H7_4 ⟨b7_4, rfl, hN7_4⟩
            have gb7_4 := hX.fresh hN7_4
            have nm0_0_7_4 := m0_0.apart hN7_4
            have pm7_4_ho := ho.apartN hN7_4
            have m0_0 := m0_0.ext hN7_4.ext
            have ho := ho.ext hN7_4.ext
            have hX := hX.trans hN7_4.ext
            have m7_4 := hN7_4.blk
            refine xl_heavy rfl rfl rfl (hv_append (size := 5) rfl rfl ho rfl m7_4.row (by simpa using ints_ten hk5) (ints_mem _) rfl (by decide) (by omega) (by omega) hX.size) ?_
            rintro v7_5 H7_5 ⟨hO7_5, hG7_5, -, hB7_5⟩
            have m0_0 := m0_0.offT ho hG7_5 rfl
            have hX := ho.grown hX hG7_5 (Nat.le_refl _)
            obtain ⟨a7_5, c7_5, rfl⟩ := hO7_5.val
            refine xl_pure rfl rfl rfl (pv_assign (v := .slice _ _ _) rfl rfl) ?_
            refine xl_nil ?_
            refine xthen_normal ?_
            refine xc_region ?_
            refine xl_pure rfl rfl rfl (pv_assign (v := .bool _) rfl rfl) ?_
            refine xl_nil ?_
            refine xthen_normal ?_
            refine xc_seq ?_
            obtain ⟨ba, off, hae⟩ := (hx.ext hX).at
            refine xp_start rfl (by repeat (first | with_reducible exact np_fin | with_reducible exact np_ret | with_reducible refine np_then ?_ | with_reducible refine np_block ?_)) (by kernel_rfl) ?_
            refine xp_pure (i := 0) rfl (by kernel_rfl) (by kernel_rfl) rfl rfl rfl (pv_move (v := .slice _ _ _) rfl rfl) ?_
            refine xp_pure (i := 1) rfl (by kernel_rfl) (by kernel_rfl) rfl rfl rfl (pv_move (v := .int _ _) rfl rfl) ?_
            refine xp_pure (i := 2) rfl (by kernel_rfl) (by kernel_rfl) rfl rfl rfl (pv_indexAddr_l rfl (sl_eq (hae (by omega)).1) rfl (by omega)) ?_
            refine xp_pure (i := 3) rfl (by kernel_rfl) (by kernel_rfl) rfl rfl rfl (pv_fieldAddr rfl rfl) ?_
            refine xp_light (i := 4) rfl (by kernel_rfl) (by kernel_rfl) rfl rfl rfl (lv_load (v := .agg _) rfl rfl (by exact ld_rky (hae (by omega)).2 hw (by decide) (by omega))) ?_
            refine xp_light (i := 5) rfl (by kernel_rfl) (by kernel_rfl) rfl rfl rfl (lv_load (v := .agg _) rfl rfl (by exact ld_ints m0_0 hk)) ?_
            refine xp_ndec (i := 6) rfl (by kernel_rfl) (by kernel_rfl) rfl rfl rfl (pv_neq_g (ky (gr l i)) k rfl rfl rfl hk4 hk) (fun h9_6 => ?_) (fun h9_6 => ?_)
            · skip
              refine xp_done (by kernel_rfl) ?_
              refine xthen_normal ?_
              refine xc_cond_f rfl ?_
              refine xc_skip ?_
              refine xblock_normal ?_
              refine xthen_normal ?_
              refine xc_region ?_
              refine xl_pure rfl rfl rfl (pv_move (v := .int _ _) rfl rfl) ?_
              refine xl_pure rfl rfl rfl (pv_add rfl rfl rfl (fit_i64 (by omega))) ?_
              refine xl_pure rfl rfl rfl (pv_assign (v := .int _ _) rfl rfl) ?_
              refine xl_nil ?_
              refine xthen_normal ?_
              first
                | exact ⟨(i + 1, _, (out ++ [k ++ [n]] ++ [gr l i]), _, _), ⟨rfl, rfl, rfl, slv (by simp), rfl, rfl, trivial⟩, ⟨by (try simp only); omega, by have h := (hI.ins hs hw hk hil rfl hc6_9).row hs hw hk hil (fun h => by cases h); rw [if_pos h9_6] at h; exact h, m0_0, by simpa [fr_app, fr] using hO10_6, hX⟩, by (try simp only); omega⟩
                | exact ⟨(i + 1, _, (out ++ [k ++ [n]]), _, _), ⟨rfl, rfl, rfl, slv (by simp), rfl, rfl, trivial⟩, ⟨by (try simp only); omega, by have h := (hI.ins hs hw hk hil rfl hc6_9).row hs hw hk hil (fun h => by cases h); rw [if_neg (fun h2 => h2 h9_6), List.append_nil] at h; exact h, m0_0, by simpa [fr_app, fr] using hO7_5, hX⟩, by (try simp only); omega⟩
                | exact ⟨(i + 1, _, (out ++ [gr l i]), _, _), ⟨rfl, rfl, rfl, slv (by simp), rfl, rfl, trivial⟩, ⟨by (try simp only); omega, by have h := hI.row hs hw hk hil (by first | exact fun _ => hc6_9 | exact fun h => by cases h); rw [if_pos h9_6] at h; exact h, m0_0, by simpa [fr_app, fr] using hO10_6, hX⟩, by (try simp only); omega⟩
                | exact ⟨(i + 1, _, out, _, _), ⟨rfl, rfl, rfl, slv (by simp), rfl, rfl, trivial⟩, ⟨by (try simp only); omega, by have h := hI.row hs hw hk hil (by first | exact fun _ => hc6_9 | exact fun h => by cases h); rw [if_neg (fun h2 => h2 h9_6), List.append_nil] at h; exact h, m0_0, by simpa [fr_app, fr] using ho, hX⟩, by (try simp only); omega⟩
            · skip
              refine xp_done (by kernel_rfl) ?_
              refine xthen_normal ?_
              refine xc_cond_t rfl ?_
              obtain ⟨ba, off, hae⟩ := (hx.ext hX).at
              refine xc_region ?_
              refine xl_pure rfl rfl rfl (pv_move (v := .slice _ _ _) rfl rfl) ?_
              refine xl_pure rfl rfl rfl (pv_move (v := .slice _ _ _) rfl rfl) ?_
              refine xl_pure rfl rfl rfl (pv_move (v := .int _ _) rfl rfl) ?_
              refine xl_pure rfl rfl rfl (pv_indexAddr_l rfl (sl_eq (hae (by omega)).1) rfl (by omega)) ?_
              refine xl_light rfl rfl rfl (lv_load (v := .agg _) rfl rfl (by exact ld_row' (hae (by omega)).2 hw (by omega))) ?_
              refine xl_heavy rfl rfl rfl (hv_buildSlice (cs := ints (gr l i)) rfl rfl (parts1 (ints_ten hr5)) rfl rfl) ?_
              rintro v10_5 H10_5 ⟨b10_5, rfl, hN10_5⟩
              have gb10_5 := hX.fresh hN10_5
              have nm0_0_10_5 := m0_0.apart hN10_5
              have pm10_5_hO7_5 := hO7_5.apartN hN10_5
              have m0_0 := m0_0.ext hN10_5.ext
              have hO7_5 := hO7_5.ext hN10_5.ext
              have hX := hX.trans hN10_5.ext
              have m10_5 := hN10_5.blk
              refine xl_heavy rfl rfl rfl (hv_append (size := 5) rfl rfl hO7_5 rfl m10_5.row (by simpa using ints_ten hr5) (ints_mem _) rfl (by decide) (by omega) (by omega) hX.size) ?_
              rintro v10_6 H10_6 ⟨hO10_6, hG10_6, -, hB10_6⟩
              have m0_0 := m0_0.offT hO7_5 hG10_6 rfl
              have hX := hO7_5.grown hX hG10_6 (Nat.le_refl _)
              obtain ⟨a10_6, c10_6, rfl⟩ := hO10_6.val
              refine xl_pure rfl rfl rfl (pv_assign (v := .slice _ _ _) rfl rfl) ?_
              refine xl_nil ?_
              refine xblock_normal ?_
              refine xthen_normal ?_
              refine xc_region ?_
              refine xl_pure rfl rfl rfl (pv_move (v := .int _ _) rfl rfl) ?_
              refine xl_pure rfl rfl rfl (pv_add rfl rfl rfl (fit_i64 (by omega))) ?_
              refine xl_pure rfl rfl rfl (pv_assign (v := .int _ _) rfl rfl) ?_
              refine xl_nil ?_
              refine xthen_normal ?_
              first
                | exact ⟨(i + 1, _, (out ++ [k ++ [n]] ++ [gr l i]), _, _), ⟨rfl, rfl, rfl, slv (by simp), rfl, rfl, trivial⟩, ⟨by (try simp only); omega, by have h := (hI.ins hs hw hk hil rfl hc6_9).row hs hw hk hil (fun h => by cases h); rw [if_pos h9_6] at h; exact h, m0_0, by simpa [fr_app, fr] using hO10_6, hX⟩, by (try simp only); omega⟩
                | exact ⟨(i + 1, _, (out ++ [k ++ [n]]), _, _), ⟨rfl, rfl, rfl, slv (by simp), rfl, rfl, trivial⟩, ⟨by (try simp only); omega, by have h := (hI.ins hs hw hk hil rfl hc6_9).row hs hw hk hil (fun h => by cases h); rw [if_neg (fun h2 => h2 h9_6), List.append_nil] at h; exact h, m0_0, by simpa [fr_app, fr] using hO7_5, hX⟩, by (try simp only); omega⟩
                | exact ⟨(i + 1, _, (out ++ [gr l i]), _, _), ⟨rfl, rfl, rfl, slv (by simp), rfl, rfl, trivial⟩, ⟨by (try simp only); omega, by have h := hI.row hs hw hk hil (by first | exact fun _ => hc6_9 | exact fun h => by cases h); rw [if_pos h9_6] at h; exact h, m0_0, by simpa [fr_app, fr] using hO10_6, hX⟩, by (try simp only); omega⟩
                | exact ⟨(i + 1, _, out, _, _), ⟨rfl, rfl, rfl, slv (by simp), rfl, rfl, trivial⟩, ⟨by (try simp only); omega, by have h := hI.row hs hw hk hil (by first | exact fun _ => hc6_9 | exact fun h => by cases h); rw [if_neg (fun h2 => h2 h9_6), List.append_nil] at h; exact h, m0_0, by simpa [fr_app, fr] using ho, hX⟩, by (try simp only); omega⟩
          · skip
            refine xp_pure (i := 10) rfl (by kernel_rfl) (by kernel_rfl) rfl rfl rfl (pv_pick_t (v := .bool _) rfl rfl rfl) ?_
            refine xp_done (by kernel_rfl) ?_
            refine xthen_normal ?_
            refine xc_cond_f rfl ?_
            refine xc_skip ?_
            refine xthen_normal ?_
            refine xc_seq ?_
            obtain ⟨ba, off, hae⟩ := (hx.ext hX).at
            refine xp_start rfl (by repeat (first | with_reducible exact np_fin | with_reducible exact np_ret | with_reducible refine np_then ?_ | with_reducible refine np_block ?_)) (by kernel_rfl) ?_
            refine xp_pure (i := 0) rfl (by kernel_rfl) (by kernel_rfl) rfl rfl rfl (pv_move (v := .slice _ _ _) rfl rfl) ?_
            refine xp_pure (i := 1) rfl (by kernel_rfl) (by kernel_rfl) rfl rfl rfl (pv_move (v := .int _ _) rfl rfl) ?_
            refine xp_pure (i := 2) rfl (by kernel_rfl) (by kernel_rfl) rfl rfl rfl (pv_indexAddr_l rfl (sl_eq (hae (by omega)).1) rfl (by omega)) ?_
            refine xp_pure (i := 3) rfl (by kernel_rfl) (by kernel_rfl) rfl rfl rfl (pv_fieldAddr rfl rfl) ?_
            refine xp_light (i := 4) rfl (by kernel_rfl) (by kernel_rfl) rfl rfl rfl (lv_load (v := .agg _) rfl rfl (by exact ld_rky (hae (by omega)).2 hw (by decide) (by omega))) ?_
            refine xp_light (i := 5) rfl (by kernel_rfl) (by kernel_rfl) rfl rfl rfl (lv_load (v := .agg _) rfl rfl (by exact ld_ints m0_0 hk)) ?_
            refine xp_ndec (i := 6) rfl (by kernel_rfl) (by kernel_rfl) rfl rfl rfl (pv_neq_g (ky (gr l i)) k rfl rfl rfl hk4 hk) (fun h9_6 => ?_) (fun h9_6 => ?_)
            · skip
              refine xp_done (by kernel_rfl) ?_
              refine xthen_normal ?_
              refine xc_cond_f rfl ?_
              refine xc_skip ?_
              refine xblock_normal ?_
              refine xthen_normal ?_
              refine xc_region ?_
              refine xl_pure rfl rfl rfl (pv_move (v := .int _ _) rfl rfl) ?_
              refine xl_pure rfl rfl rfl (pv_add rfl rfl rfl (fit_i64 (by omega))) ?_
              refine xl_pure rfl rfl rfl (pv_assign (v := .int _ _) rfl rfl) ?_
              refine xl_nil ?_
              refine xthen_normal ?_
              first
                | exact ⟨(i + 1, _, (out ++ [k ++ [n]] ++ [gr l i]), _, _), ⟨rfl, rfl, rfl, slv (by simp), rfl, rfl, trivial⟩, ⟨by (try simp only); omega, by have h := (hI.ins hs hw hk hil rfl hc6_9).row hs hw hk hil (fun h => by cases h); rw [if_pos h9_6] at h; exact h, m0_0, by simpa [fr_app, fr] using hO10_6, hX⟩, by (try simp only); omega⟩
                | exact ⟨(i + 1, _, (out ++ [k ++ [n]]), _, _), ⟨rfl, rfl, rfl, slv (by simp), rfl, rfl, trivial⟩, ⟨by (try simp only); omega, by have h := (hI.ins hs hw hk hil rfl hc6_9).row hs hw hk hil (fun h => by cases h); rw [if_neg (fun h2 => h2 h9_6), List.append_nil] at h; exact h, m0_0, by simpa [fr_app, fr] using hO7_5, hX⟩, by (try simp only); omega⟩
                | exact ⟨(i + 1, _, (out ++ [gr l i]), _, _), ⟨rfl, rfl, rfl, slv (by simp), rfl, rfl, trivial⟩, ⟨by (try simp only); omega, by have h := hI.row hs hw hk hil (by first | exact fun _ => hc6_9 | exact fun h => by cases h); rw [if_pos h9_6] at h; exact h, m0_0, by simpa [fr_app, fr] using hO10_6, hX⟩, by (try simp only); omega⟩
                | exact ⟨(i + 1, _, out, _, _), ⟨rfl, rfl, rfl, slv (by simp), rfl, rfl, trivial⟩, ⟨by (try simp only); omega, by have h := hI.row hs hw hk hil (by first | exact fun _ => hc6_9 | exact fun h => by cases h); rw [if_neg (fun h2 => h2 h9_6), List.append_nil] at h; exact h, m0_0, by simpa [fr_app, fr] using ho, hX⟩, by (try simp only); omega⟩
            · skip
              refine xp_done (by kernel_rfl) ?_
              refine xthen_normal ?_
              refine xc_cond_t rfl ?_
              obtain ⟨ba, off, hae⟩ := (hx.ext hX).at
              refine xc_region ?_
              refine xl_pure rfl rfl rfl (pv_move (v := .slice _ _ _) rfl rfl) ?_
              refine xl_pure rfl rfl rfl (pv_move (v := .slice _ _ _) rfl rfl) ?_
              refine xl_pure rfl rfl rfl (pv_move (v := .int _ _) rfl rfl) ?_
              refine xl_pure rfl rfl rfl (pv_indexAddr_l rfl (sl_eq (hae (by omega)).1) rfl (by omega)) ?_
              refine xl_light rfl rfl rfl (lv_load (v := .agg _) rfl rfl (by exact ld_row' (hae (by omega)).2 hw (by omega))) ?_
              refine xl_heavy rfl rfl rfl (hv_buildSlice (cs := ints (gr l i)) rfl rfl (parts1 (ints_ten hr5)) rfl rfl) ?_
              rintro v10_5 H10_5 ⟨b10_5, rfl, hN10_5⟩
              have gb10_5 := hX.fresh hN10_5
              have nm0_0_10_5 := m0_0.apart hN10_5
              have pm10_5_ho := ho.apartN hN10_5
              have m0_0 := m0_0.ext hN10_5.ext
              have ho := ho.ext hN10_5.ext
              have hX := hX.trans hN10_5.ext
              have m10_5 := hN10_5.blk
              refine xl_heavy rfl rfl rfl (hv_append (size := 5) rfl rfl ho rfl m10_5.row (by simpa using ints_ten hr5) (ints_mem _) rfl (by decide) (by omega) (by omega) hX.size) ?_
              rintro v10_6 H10_6 ⟨hO10_6, hG10_6, -, hB10_6⟩
              have m0_0 := m0_0.offT ho hG10_6 rfl
              have hX := ho.grown hX hG10_6 (Nat.le_refl _)
              obtain ⟨a10_6, c10_6, rfl⟩ := hO10_6.val
              refine xl_pure rfl rfl rfl (pv_assign (v := .slice _ _ _) rfl rfl) ?_
              refine xl_nil ?_
              refine xblock_normal ?_
              refine xthen_normal ?_
              refine xc_region ?_
              refine xl_pure rfl rfl rfl (pv_move (v := .int _ _) rfl rfl) ?_
              refine xl_pure rfl rfl rfl (pv_add rfl rfl rfl (fit_i64 (by omega))) ?_
              refine xl_pure rfl rfl rfl (pv_assign (v := .int _ _) rfl rfl) ?_
              refine xl_nil ?_
              refine xthen_normal ?_
              first
                | exact ⟨(i + 1, _, (out ++ [k ++ [n]] ++ [gr l i]), _, _), ⟨rfl, rfl, rfl, slv (by simp), rfl, rfl, trivial⟩, ⟨by (try simp only); omega, by have h := (hI.ins hs hw hk hil rfl hc6_9).row hs hw hk hil (fun h => by cases h); rw [if_pos h9_6] at h; exact h, m0_0, by simpa [fr_app, fr] using hO10_6, hX⟩, by (try simp only); omega⟩
                | exact ⟨(i + 1, _, (out ++ [k ++ [n]]), _, _), ⟨rfl, rfl, rfl, slv (by simp), rfl, rfl, trivial⟩, ⟨by (try simp only); omega, by have h := (hI.ins hs hw hk hil rfl hc6_9).row hs hw hk hil (fun h => by cases h); rw [if_neg (fun h2 => h2 h9_6), List.append_nil] at h; exact h, m0_0, by simpa [fr_app, fr] using hO7_5, hX⟩, by (try simp only); omega⟩
                | exact ⟨(i + 1, _, (out ++ [gr l i]), _, _), ⟨rfl, rfl, rfl, slv (by simp), rfl, rfl, trivial⟩, ⟨by (try simp only); omega, by have h := hI.row hs hw hk hil (by first | exact fun _ => hc6_9 | exact fun h => by cases h); rw [if_pos h9_6] at h; exact h, m0_0, by simpa [fr_app, fr] using hO10_6, hX⟩, by (try simp only); omega⟩
                | exact ⟨(i + 1, _, out, _, _), ⟨rfl, rfl, rfl, slv (by simp), rfl, rfl, trivial⟩, ⟨by (try simp only); omega, by have h := hI.row hs hw hk hil (by first | exact fun _ => hc6_9 | exact fun h => by cases h); rw [if_neg (fun h2 => h2 h9_6), List.append_nil] at h; exact h, m0_0, by simpa [fr_app, fr] using ho, hX⟩, by (try simp only); omega⟩
        · skip
          refine xp_pure (i := 1) rfl (by kernel_rfl) (by kernel_rfl) rfl rfl rfl (pv_not rfl rfl) ?_
          refine xp_pure (i := 2) rfl (by kernel_rfl) (by kernel_rfl) rfl rfl rfl (pv_move (v := .bool _) rfl rfl) ?_
          refine xp_skip (i := 3) rfl (by kernel_rfl) (by kernel_rfl) rfl rfl rfl ?_
          refine xp_skip (i := 4) rfl (by kernel_rfl) (by kernel_rfl) rfl rfl rfl ?_
          refine xp_skip (i := 5) rfl (by kernel_rfl) (by kernel_rfl) rfl rfl rfl ?_
          refine xp_skip (i := 6) rfl (by kernel_rfl) (by kernel_rfl) rfl rfl rfl ?_
          refine xp_skip (i := 7) rfl (by kernel_rfl) (by kernel_rfl) rfl rfl rfl ?_
          refine xp_skip (i := 8) rfl (by kernel_rfl) (by kernel_rfl) rfl rfl rfl ?_
          refine xp_skip (i := 9) rfl (by kernel_rfl) (by kernel_rfl) rfl rfl rfl ?_
          refine xp_pure (i := 10) rfl (by kernel_rfl) (by kernel_rfl) rfl rfl rfl (pv_pick_f (v := .bool _) rfl rfl rfl) ?_
          refine xp_done (by kernel_rfl) ?_
          refine xthen_normal ?_
          refine xc_cond_f rfl ?_
          refine xc_skip ?_
          refine xthen_normal ?_
          refine xc_seq ?_
          obtain ⟨ba, off, hae⟩ := (hx.ext hX).at
          refine xp_start rfl (by repeat (first | with_reducible exact np_fin | with_reducible exact np_ret | with_reducible refine np_then ?_ | with_reducible refine np_block ?_)) (by kernel_rfl) ?_
          refine xp_pure (i := 0) rfl (by kernel_rfl) (by kernel_rfl) rfl rfl rfl (pv_move (v := .slice _ _ _) rfl rfl) ?_
          refine xp_pure (i := 1) rfl (by kernel_rfl) (by kernel_rfl) rfl rfl rfl (pv_move (v := .int _ _) rfl rfl) ?_
          refine xp_pure (i := 2) rfl (by kernel_rfl) (by kernel_rfl) rfl rfl rfl (pv_indexAddr_l rfl (sl_eq (hae (by omega)).1) rfl (by omega)) ?_
          refine xp_pure (i := 3) rfl (by kernel_rfl) (by kernel_rfl) rfl rfl rfl (pv_fieldAddr rfl rfl) ?_
          refine xp_light (i := 4) rfl (by kernel_rfl) (by kernel_rfl) rfl rfl rfl (lv_load (v := .agg _) rfl rfl (by exact ld_rky (hae (by omega)).2 hw (by decide) (by omega))) ?_
          refine xp_light (i := 5) rfl (by kernel_rfl) (by kernel_rfl) rfl rfl rfl (lv_load (v := .agg _) rfl rfl (by exact ld_ints m0_0 hk)) ?_
          refine xp_ndec (i := 6) rfl (by kernel_rfl) (by kernel_rfl) rfl rfl rfl (pv_neq_g (ky (gr l i)) k rfl rfl rfl hk4 hk) (fun h9_6 => ?_) (fun h9_6 => ?_)
          · skip
            refine xp_done (by kernel_rfl) ?_
            refine xthen_normal ?_
            refine xc_cond_f rfl ?_
            refine xc_skip ?_
            refine xblock_normal ?_
            refine xthen_normal ?_
            refine xc_region ?_
            refine xl_pure rfl rfl rfl (pv_move (v := .int _ _) rfl rfl) ?_
            refine xl_pure rfl rfl rfl (pv_add rfl rfl rfl (fit_i64 (by omega))) ?_
            refine xl_pure rfl rfl rfl (pv_assign (v := .int _ _) rfl rfl) ?_
            refine xl_nil ?_
            refine xthen_normal ?_
            first
              | exact ⟨(i + 1, _, (out ++ [k ++ [n]] ++ [gr l i]), _, _), ⟨rfl, rfl, rfl, slv (by simp), rfl, rfl, trivial⟩, ⟨by (try simp only); omega, by have h := (hI.ins hs hw hk hil rfl hc6_9).row hs hw hk hil (fun h => by cases h); rw [if_pos h9_6] at h; exact h, m0_0, by simpa [fr_app, fr] using hO10_6, hX⟩, by (try simp only); omega⟩
              | exact ⟨(i + 1, _, (out ++ [k ++ [n]]), _, _), ⟨rfl, rfl, rfl, slv (by simp), rfl, rfl, trivial⟩, ⟨by (try simp only); omega, by have h := (hI.ins hs hw hk hil rfl hc6_9).row hs hw hk hil (fun h => by cases h); rw [if_neg (fun h2 => h2 h9_6), List.append_nil] at h; exact h, m0_0, by simpa [fr_app, fr] using hO7_5, hX⟩, by (try simp only); omega⟩
              | exact ⟨(i + 1, _, (out ++ [gr l i]), _, _), ⟨rfl, rfl, rfl, slv (by simp), rfl, rfl, trivial⟩, ⟨by (try simp only); omega, by have h := hI.row hs hw hk hil (by first | exact fun _ => hc6_9 | exact fun h => by cases h); rw [if_pos h9_6] at h; exact h, m0_0, by simpa [fr_app, fr] using hO10_6, hX⟩, by (try simp only); omega⟩
              | exact ⟨(i + 1, _, out, _, _), ⟨rfl, rfl, rfl, slv (by simp), rfl, rfl, trivial⟩, ⟨by (try simp only); omega, by have h := hI.row hs hw hk hil (by first | exact fun _ => hc6_9 | exact fun h => by cases h); rw [if_neg (fun h2 => h2 h9_6), List.append_nil] at h; exact h, m0_0, by simpa [fr_app, fr] using ho, hX⟩, by (try simp only); omega⟩
          · skip
            refine xp_done (by kernel_rfl) ?_
            refine xthen_normal ?_
            refine xc_cond_t rfl ?_
            obtain ⟨ba, off, hae⟩ := (hx.ext hX).at
            refine xc_region ?_
            refine xl_pure rfl rfl rfl (pv_move (v := .slice _ _ _) rfl rfl) ?_
            refine xl_pure rfl rfl rfl (pv_move (v := .slice _ _ _) rfl rfl) ?_
            refine xl_pure rfl rfl rfl (pv_move (v := .int _ _) rfl rfl) ?_
            refine xl_pure rfl rfl rfl (pv_indexAddr_l rfl (sl_eq (hae (by omega)).1) rfl (by omega)) ?_
            refine xl_light rfl rfl rfl (lv_load (v := .agg _) rfl rfl (by exact ld_row' (hae (by omega)).2 hw (by omega))) ?_
            refine xl_heavy rfl rfl rfl (hv_buildSlice (cs := ints (gr l i)) rfl rfl (parts1 (ints_ten hr5)) rfl rfl) ?_
            rintro v10_5 H10_5 ⟨b10_5, rfl, hN10_5⟩
            have gb10_5 := hX.fresh hN10_5
            have nm0_0_10_5 := m0_0.apart hN10_5
            have pm10_5_ho := ho.apartN hN10_5
            have m0_0 := m0_0.ext hN10_5.ext
            have ho := ho.ext hN10_5.ext
            have hX := hX.trans hN10_5.ext
            have m10_5 := hN10_5.blk
            refine xl_heavy rfl rfl rfl (hv_append (size := 5) rfl rfl ho rfl m10_5.row (by simpa using ints_ten hr5) (ints_mem _) rfl (by decide) (by omega) (by omega) hX.size) ?_
            rintro v10_6 H10_6 ⟨hO10_6, hG10_6, -, hB10_6⟩
            have m0_0 := m0_0.offT ho hG10_6 rfl
            have hX := ho.grown hX hG10_6 (Nat.le_refl _)
            obtain ⟨a10_6, c10_6, rfl⟩ := hO10_6.val
            refine xl_pure rfl rfl rfl (pv_assign (v := .slice _ _ _) rfl rfl) ?_
            refine xl_nil ?_
            refine xblock_normal ?_
            refine xthen_normal ?_
            refine xc_region ?_
            refine xl_pure rfl rfl rfl (pv_move (v := .int _ _) rfl rfl) ?_
            refine xl_pure rfl rfl rfl (pv_add rfl rfl rfl (fit_i64 (by omega))) ?_
            refine xl_pure rfl rfl rfl (pv_assign (v := .int _ _) rfl rfl) ?_
            refine xl_nil ?_
            refine xthen_normal ?_
            first
              | exact ⟨(i + 1, _, (out ++ [k ++ [n]] ++ [gr l i]), _, _), ⟨rfl, rfl, rfl, slv (by simp), rfl, rfl, trivial⟩, ⟨by (try simp only); omega, by have h := (hI.ins hs hw hk hil rfl hc6_9).row hs hw hk hil (fun h => by cases h); rw [if_pos h9_6] at h; exact h, m0_0, by simpa [fr_app, fr] using hO10_6, hX⟩, by (try simp only); omega⟩
              | exact ⟨(i + 1, _, (out ++ [k ++ [n]]), _, _), ⟨rfl, rfl, rfl, slv (by simp), rfl, rfl, trivial⟩, ⟨by (try simp only); omega, by have h := (hI.ins hs hw hk hil rfl hc6_9).row hs hw hk hil (fun h => by cases h); rw [if_neg (fun h2 => h2 h9_6), List.append_nil] at h; exact h, m0_0, by simpa [fr_app, fr] using hO7_5, hX⟩, by (try simp only); omega⟩
              | exact ⟨(i + 1, _, (out ++ [gr l i]), _, _), ⟨rfl, rfl, rfl, slv (by simp), rfl, rfl, trivial⟩, ⟨by (try simp only); omega, by have h := hI.row hs hw hk hil (by first | exact fun _ => hc6_9 | exact fun h => by cases h); rw [if_pos h9_6] at h; exact h, m0_0, by simpa [fr_app, fr] using hO10_6, hX⟩, by (try simp only); omega⟩
              | exact ⟨(i + 1, _, out, _, _), ⟨rfl, rfl, rfl, slv (by simp), rfl, rfl, trivial⟩, ⟨by (try simp only); omega, by have h := hI.row hs hw hk hil (by first | exact fun _ => hc6_9 | exact fun h => by cases h); rw [if_neg (fun h2 => h2 h9_6), List.append_nil] at h; exact h, m0_0, by simpa [fr_app, fr] using ho, hX⟩, by (try simp only); omega⟩
      · skip
        refine xl_nil ?_
        refine xthen_normal ?_
        refine xc_cond_f rfl ?_
        refine xc_exit ?_
        refine xthen_exit ?_
        refine xthen_exit ?_
        refine xblock_same ?_
        refine xthen_normal ?_
        refine xc_seq ?_
        refine xc_seq ?_
        obtain rfl : i = l.length := by omega
        refine xc_region ?_
        refine xl_pure rfl rfl rfl (pv_move (v := .bool _) rfl rfl) ?_
        cases dn
        · skip
          refine xl_pure rfl rfl rfl (pv_not rfl rfl) ?_
          refine xl_nil ?_
          refine xthen_normal ?_
          refine xc_cond_t rfl ?_
          refine xc_region ?_
          refine xl_pure rfl rfl rfl (pv_move (v := .slice _ _ _) rfl rfl) ?_
          refine xl_light rfl rfl rfl (lv_load (v := .agg _) rfl rfl (by exact ld_ints m0_0 hk)) ?_
          refine xl_pure rfl rfl rfl (pv_move (v := .int _ _) rfl rfl) ?_
          refine xl_pure rfl rfl rfl (pv_build_pair (xs := ints k) (ys := [.int .i64 n]) rfl rfl rfl rfl rfl (by rw [ints_ten hk]; rfl) (by rw [ints_ten hk]; rfl) (by rw [ints_ten hk]; rfl)) ?_
          refine xl_heavy rfl rfl rfl (hv_buildSlice (cs := ints (k ++ [n])) rfl rfl (by rw [← ints_app]; exact parts1 (by simp [ints, hk])) rfl rfl) ?_
          rintro v12_4 H12_4 ⟨b12_4, rfl, hN12_4⟩
          have gb12_4 := hX.fresh hN12_4
          have nm0_0_12_4 := m0_0.apart hN12_4
          have pm12_4_ho := ho.apartN hN12_4
          have m0_0 := m0_0.ext hN12_4.ext
          have ho := ho.ext hN12_4.ext
          have hX := hX.trans hN12_4.ext
          have m12_4 := hN12_4.blk
          refine xl_heavy rfl rfl rfl (hv_append (size := 5) rfl rfl ho rfl m12_4.row (by simpa using ints_ten hk5) (ints_mem _) rfl (by decide) (by omega) (by omega) hX.size) ?_
          rintro v12_5 H12_5 ⟨hO12_5, hG12_5, -, hB12_5⟩
          have m0_0 := m0_0.offT ho hG12_5 rfl
          have hX := ho.grown hX hG12_5 (Nat.le_refl _)
          obtain ⟨a12_5, c12_5, rfl⟩ := hO12_5.val
          refine xl_pure rfl rfl rfl (pv_assign (v := .slice _ _ _) rfl rfl) ?_
          refine xl_nil ?_
          refine xthen_normal ?_
          refine xc_seq ?_
          refine xc_region ?_
          refine xl_pure rfl rfl rfl (pv_move (v := .slice _ _ _) rfl rfl) ?_
          refine xl_pure rfl rfl rfl (pv_assign (v := .slice _ _ _) rfl rfl) ?_
          refine xl_nil ?_
          refine xthen_normal ?_
          refine xc_ret ?_
          refine fin_ret (res1 (v := .slice _ _ _) rfl rfl) ?_
          have hdn := hI.done hs hw hk
          have hwo := hI.wide hw hk
          first
            | (rw [if_pos rfl] at hdn; exact ⟨a12_5, c12_5, slv (by rw [← hdn]; simp), by rw [← hdn]; exact own_rowsT (hwo.app fun r hr => by rw [List.mem_singleton] at hr; rw [hr]; exact hk5) (by simpa [fr_app, fr] using hO12_5), hX⟩)
            | (rw [if_neg (by decide)] at hdn; exact ⟨va, vc, slv (by rw [← hdn]), by rw [← hdn]; exact own_rowsT hwo ho, hX⟩)
        · skip
          refine xl_pure rfl rfl rfl (pv_not rfl rfl) ?_
          refine xl_nil ?_
          refine xthen_normal ?_
          refine xc_cond_f rfl ?_
          refine xc_skip ?_
          refine xthen_normal ?_
          refine xc_seq ?_
          refine xc_region ?_
          refine xl_pure rfl rfl rfl (pv_move (v := .slice _ _ _) rfl rfl) ?_
          refine xl_pure rfl rfl rfl (pv_assign (v := .slice _ _ _) rfl rfl) ?_
          refine xl_nil ?_
          refine xthen_normal ?_
          refine xc_ret ?_
          refine fin_ret (res1 (v := .slice _ _ _) rfl rfl) ?_
          have hdn := hI.done hs hw hk
          have hwo := hI.wide hw hk
          first
            | (rw [if_pos rfl] at hdn; exact ⟨a12_5, c12_5, slv (by rw [← hdn]; simp), by rw [← hdn]; exact own_rowsT (hwo.app fun r hr => by rw [List.mem_singleton] at hr; rw [hr]; exact hk5) (by simpa [fr_app, fr] using hO12_5), hX⟩)
            | (rw [if_neg (by decide)] at hdn; exact ⟨va, vc, slv (by rw [← hdn]), by rw [← hdn]; exact own_rowsT hwo ho, hX⟩)
end Go.XG
