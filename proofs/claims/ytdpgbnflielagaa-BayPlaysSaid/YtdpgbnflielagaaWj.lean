/-
  Walks of the seat's functions over the logic XG: each function, what it computes. Printed by a program out of wip/walks.py.
-/
import Derived.Test.YtdpgbnflielagaaI
import Derived.Test.YtdpgbnflielagaaN
import Derived.Test.YtdpgbnflielagaaWa
import Derived.Test.YtdpgbnflielagaaWb
import Derived.Test.YtdpgbnflielagaaWc
import Derived.Test.YtdpgbnflielagaaWd
import Derived.Test.YtdpgbnflielagaaWe
import Derived.Test.YtdpgbnflielagaaWf
import Derived.Test.YtdpgbnflielagaaWg
import Derived.Test.YtdpgbnflielagaaWh
import Derived.Test.YtdpgbnflielagaaWi
namespace Go.XG
open Go.Proofs
set_option maxRecDepth 4000
set_option maxHeartbeats 4000000
theorem new_ {O : Outer} {H : Heap} {a : Option Addr} {c : Nat} {l : List (List Int)} (hs : Rows H a 4 l) (hl : l.length < 1000000) :
    FnC Try.prog 7 #[.slice a l.length c] O H (fun v H' => ((okN l ∧ ∃ bp, v = .tuple #[.pointer (some ⟨bp, 0, none⟩), .int .i64 0] ∧ BB H' bp (fun j => H.size ≤ j ∧ j < H'.size) (newS l) (fun _ => none)) ∨ (¬ okN l ∧ v = .tuple #[.pointer none, .int .i64 1])) ∧ Ext H H') := by
  refine fn_enter (A := [.slice a l.length c]) Try.func7 rfl rfl ?_
  have hX := Ext.refl H
  refine xc_seq ?_
  refine xc_region ?_
  refine xl_pure rfl rfl rfl (pv_assign (v := .pointer _) rfl rfl) ?_
  refine xl_pure rfl rfl rfl (pv_assign (v := .int _ _) rfl rfl) ?_
  refine xl_nil ?_
  refine xthen_normal ?_
  refine xc_seq ?_
  refine xc_seq ?_
  refine xc_region ?_
  refine xl_pure rfl rfl rfl (pv_move (v := .slice _ _ _) rfl rfl) ?_
  refine xl_pure rfl rfl rfl (pv_len_l rfl rfl) ?_
  refine xl_dec rfl rfl rfl (pv_gtr rfl rfl rfl) (fun h1_2 => ?_) (fun h1_2 => ?_)
  · skip
    refine xl_nil ?_
    refine xthen_normal ?_
    refine xc_cond_t rfl ?_
    refine xc_seq ?_
    refine xc_region ?_
    refine xl_pure rfl rfl rfl (pv_assign (v := .pointer _) rfl rfl) ?_
    refine xl_pure rfl rfl rfl (pv_assign (v := .int _ _) rfl rfl) ?_
    refine xl_nil ?_
    refine xthen_normal ?_
    refine xc_ret ?_
    refine xthen_ret ?_
    refine fin_ret (res2 (v := .pointer _) (x := .int _ _) rfl rfl rfl) ?_
    exact ⟨.inr ⟨fun h => by have := h.1; omega, rfl⟩, hX⟩
  · skip
    refine xl_nil ?_
    refine xthen_normal ?_
    refine xc_cond_f rfl ?_
    refine xc_skip ?_
    refine xthen_normal ?_
    refine xc_seq ?_
    refine xc_region ?_
    refine xl_heavy rfl rfl rfl (hv_makeMap kvI 1 rfl) ?_
    rintro v3_0 H3_0 ⟨b3_0, rfl, hN3_0⟩
    have hm := mapI_new hN3_0.map rfl
    have gm := hN3_0.ge
    have hX := hX.trans hN3_0.ext
    refine xl_pure rfl rfl rfl (pv_build_s (cs := [.slice _ _ _, .map _]) rfl rfl rfl) ?_
    refine xl_heavy rfl rfl rfl (hv_box rfl rfl) ?_
    rintro v3_2 H3_2 ⟨b3_2, rfl, hN3_2⟩
    have gb3_2 := hX.fresh hN3_2
    have hX := hX.trans hN3_2.ext
    have m3_2 := hN3_2.blk
    have hm := hm.ext hN3_2.ext
    refine xl_pure rfl rfl rfl (pv_assign (v := .pointer _) rfl rfl) ?_
    refine xl_nil ?_
    refine xthen_normal ?_
    refine xc_seq ?_
    refine xc_seq ?_
    refine xc_region ?_
    refine xl_pure rfl rfl rfl (pv_move (v := .slice _ _ _) rfl rfl) ?_
    refine xl_pure rfl rfl rfl (pv_len_l rfl rfl) ?_
    refine xl_pure rfl rfl rfl (pv_move (v := .int _ _) rfl rfl) ?_
    refine xl_nil ?_
    refine xthen_normal ?_
    refine xc_block ?_
    refine xc_loop (τ := Nat × Option Addr × Nat) (fun t => [(4, .pointer (some ⟨b3_2, 0, none⟩)), (15, .slice a l.length c), (16, .int .i64 (l.length : Nat)), (17, .int .i64 (t.1 : Nat))]) (fun t H' => (t.1 ≤ l.length) ∧ (∀ n ∈ sls (l.take t.1), okS n) ∧ (Blk H' b3_2 [.slice t.2.1 (2 * t.1) t.2.2, .map (some b3_0)] 52) ∧ (Own H' H.size 69 3 (.slice t.2.1 (2 * t.1) t.2.2) (2 * t.1) (fE ((sls (l.take t.1)).map mkE))) ∧ (MapI H' b3_0 (fun _ => none)) ∧ (Ext H H')) (fun t H' => l.length - t.1) (0, none, 0) ?_ ?_ ?_
    · exact ⟨rfl, rfl, rfl, rfl, trivial⟩
    · skip
      exact ⟨Nat.zero_le _, fun n h => by simp [sls] at h, m3_2, Own.nil _ _ _ _, hm, hX⟩
    · intro σ
      clear hX m3_2
      rintro ⟨k, va, vc⟩ Hl5 ⟨hk, hok, mp, ho, hm, hX⟩
      replace hk : k ≤ l.length := hk
      replace hok : ∀ n ∈ sls (l.take k), okS n := hok
      replace mp : Blk Hl5 b3_2 [.slice va (2 * k) vc, .map (some b3_0)] 52 := mp
      replace ho : Own Hl5 H.size 69 3 (.slice va (2 * k) vc) (2 * k) (fE ((sls (l.take k)).map mkE)) := ho
      replace hm : MapI Hl5 b3_0 (fun _ => none) := hm
      replace hX : Ext H Hl5 := hX
      obtain ⟨ba, off, hae⟩ := (hs.ext hX).at'
      show XC _ _ _ (upds σ [(4, .pointer (some ⟨b3_2, 0, none⟩)), (15, .slice a l.length c), (16, .int .i64 (l.length : Nat)), (17, .int .i64 (k : Nat))]) _
      refine xc_seq ?_
      refine xc_region ?_
      refine xl_dec rfl rfl rfl (pv_lss rfl rfl rfl) (fun h5_0 => ?_) (fun h5_0 => ?_)
      · skip
        refine xl_nil ?_
        refine xthen_normal ?_
        refine xc_seq ?_
        refine xc_cond_t rfl ?_
        refine xc_skip ?_
        refine xthen_normal ?_
        refine xc_seq ?_
        refine xc_block ?_
        refine xc_seq ?_
        refine xc_region ?_
        refine xl_pure rfl rfl rfl (pv_indexAddr_l rfl (sl_eq (hae (by omega)).1) rfl (by omega)) ?_
        refine xl_light rfl rfl rfl (lv_load (v := .agg _) rfl rfl (by exact ld_row' (hae (by omega)).2 hs.1 (by omega))) ?_
        refine xl_heavy rfl rfl rfl (hv_alloc rfl rfl) ?_
        rintro v6_2 H6_2 ⟨b6_2, rfl, hN6_2⟩
        have gb6_2 := hX.fresh hN6_2
        have nmp_6_2 := mp.apart hN6_2
        have ho := ho.ext hN6_2.ext
        have hm := hm.ext hN6_2.ext
        have mp := mp.ext hN6_2.ext
        have hX := hX.trans hN6_2.ext
        have m6_2 := hN6_2.blk
        refine xl_store rfl rfl (hv_storeA (vs := ints (gr l k)) rfl rfl rfl (m6_2) (ints_len hs.1 (by omega)) (by rfl) (ints_one _)) ?_
        rintro v6_3 H6_3 ⟨hU6_3, hZ6_3⟩
        have ho := ho.offU m6_2 hU6_3.but (.inl rfl)
        have hm := hm.offT m6_2 hU6_3.but (by first | rfl | assumption)
        have mp := mp.off hU6_3.but (by first | exact nmp_6_2 | exact ⟨mp.ne m6_2 rfl⟩ | exact ⟨mp.ne m6_2 (by assumption)⟩ | exact ⟨Ne.symm (m6_2.ne mp (by assumption))⟩)
        have hX := hX.upd hU6_3.but gb6_2
        have m6_2 := hU6_3.blk
        refine xl_nil ?_
        refine xthen_normal ?_
        refine xc_seq ?_
        refine xc_region ?_
        refine xl_pure rfl rfl rfl (pv_fieldAddr rfl rfl) ?_
        refine xl_light rfl rfl rfl (lv_load (v := .int _ _) rfl rfl (by exact ld_get (i := 1) m6_2 (by rw [hs.1.get (by omega)]; decide))) ?_
        refine xl_pure rfl rfl rfl (pv_fieldAddr rfl rfl) ?_
        refine xl_light rfl rfl rfl (lv_load (v := .int _ _) rfl rfl (by exact ld_get (i := 2) m6_2 (by rw [hs.1.get (by omega)]; decide))) ?_
        refine xl_pure rfl rfl rfl (pv_build_a (cs := [.int _ _, .int _ _]) rfl rfl rfl) ?_
        refine xl_pure rfl rfl rfl (pv_move (v := .int _ _) rfl rfl) ?_
        refine xl_nil ?_
        refine xthen_normal ?_
        refine xc_block ?_
        refine xc_loop (τ := Nat × Option Addr × Nat) (fun t => [(4, .pointer (some ⟨b3_2, 0, none⟩)), (15, .slice a l.length c), (16, .int .i64 (l.length : Nat)), (17, .int .i64 (k : Nat)), (25, .agg #[.int .i64 (x1B (gr l k)), .int .i64 (x2B (gr l k))]), (26, .int .i64 (t.1 : Nat))]) (fun t H' => (t.1 ≤ 2) ∧ (∀ n ∈ (sls (l.take k) ++ [x1B (gr l k), x2B (gr l k)].take t.1), okS n) ∧ (Blk H' b3_2 [.slice t.2.1 (2 * k + t.1) t.2.2, .map (some b3_0)] 52) ∧ (Own H' H.size 69 3 (.slice t.2.1 (2 * k + t.1) t.2.2) (2 * k + t.1) (fE ((sls (l.take k) ++ [x1B (gr l k), x2B (gr l k)].take t.1).map mkE))) ∧ (MapI H' b3_0 (fun _ => none)) ∧ (Ext H H')) (fun t H' => 2 - t.1) (0, va, vc) ?_ ?_ ?_
        · exact ⟨rfl, rfl, rfl, rfl, rfl, rfl, trivial⟩
        · skip
          exact ⟨Nat.zero_le _, by rw [List.take_zero, List.append_nil]; exact hok, mp, by rw [List.take_zero, List.append_nil]; exact ho, hm, hX⟩
        · intro σ
          clear hX ho hm mp m6_2
          rintro ⟨i, vb, vd⟩ Hl8 ⟨hi, hok, mp, ho, hm, hX⟩
          replace hi : i ≤ 2 := hi
          replace hok : ∀ n ∈ (sls (l.take k) ++ [x1B (gr l k), x2B (gr l k)].take i), okS n := hok
          replace mp : Blk Hl8 b3_2 [.slice vb (2 * k + i) vd, .map (some b3_0)] 52 := mp
          replace ho : Own Hl8 H.size 69 3 (.slice vb (2 * k + i) vd) (2 * k + i) (fE ((sls (l.take k) ++ [x1B (gr l k), x2B (gr l k)].take i).map mkE)) := ho
          replace hm : MapI Hl8 b3_0 (fun _ => none) := hm
          replace hX : Ext H Hl8 := hX
          show XC _ _ _ (upds σ [(4, .pointer (some ⟨b3_2, 0, none⟩)), (15, .slice a l.length c), (16, .int .i64 (l.length : Nat)), (17, .int .i64 (k : Nat)), (25, .agg #[.int .i64 (x1B (gr l k)), .int .i64 (x2B (gr l k))]), (26, .int .i64 (i : Nat))]) _
          refine xc_seq ?_
          refine xc_region ?_
          refine xl_dec rfl rfl rfl (pv_lss rfl rfl rfl) (fun h8_0 => ?_) (fun h8_0 => ?_)
          · skip
            refine xl_nil ?_
            refine xthen_normal ?_
            refine xc_seq ?_
            refine xc_cond_t rfl ?_
            refine xc_skip ?_
            refine xthen_normal ?_
            refine xc_seq ?_
            refine xc_block ?_
            refine xc_seq ?_
            refine xc_region ?_
            refine xl_pure rfl rfl rfl (pv_index_a (cs := ints [x1B (gr l k), x2B (gr l k)]) (v := .int .i64 ([x1B (gr l k), x2B (gr l k)].getD i 0)) rfl rfl rfl (by omega) (by rw [Nat.mul_one]; exact two_get (by omega))) ?_
            refine xl_pure rfl rfl rfl (pv_assign (v := .int _ _) rfl rfl) ?_
            refine xl_nil ?_
            refine xthen_normal ?_
            refine xc_seq ?_
            refine xc_seq ?_
            refine xc_region ?_
            refine xl_pure rfl rfl rfl (pv_move (v := .int _ _) rfl rfl) ?_
            refine xl_dec rfl rfl rfl (pv_lss rfl rfl rfl) (fun h10_1 => ?_) (fun h10_1 => ?_)
            · skip
              refine xl_pure rfl rfl rfl (pv_move (v := .bool _) rfl rfl) ?_
              refine xl_skip rfl rfl rfl ?_
              refine xl_skip rfl rfl rfl ?_
              refine xl_pure rfl rfl rfl (pv_pick_t (v := .bool _) rfl rfl rfl) ?_
              refine xl_nil ?_
              refine xthen_normal ?_
              refine xc_cond_t rfl ?_
              refine xc_seq ?_
              refine xc_region ?_
              refine xl_pure rfl rfl rfl (pv_assign (v := .pointer _) rfl rfl) ?_
              refine xl_pure rfl rfl rfl (pv_assign (v := .int _ _) rfl rfl) ?_
              refine xl_nil ?_
              refine xthen_normal ?_
              refine xc_ret ?_
              refine xthen_ret ?_
              refine xblock_ret ?_
              refine xthen_ret ?_
              refine xthen_ret ?_
              refine xblock_ret ?_
              refine xblock_ret ?_
              refine xthen_ret ?_
              refine xthen_ret ?_
              refine xblock_ret ?_
              refine xthen_ret ?_
              refine fin_ret (res2 (v := .pointer _) (x := .int _ _) rfl rfl rfl) ?_
              exact ⟨.inr ⟨okN_no (sls_mem (show k < l.length by omega) (show i < 2 by omega)) (fun h => by have h1 := h.1; have h2 := h.2; omega), rfl⟩, hX⟩
            · skip
              refine xl_pure rfl rfl rfl (pv_move (v := .bool _) rfl rfl) ?_
              refine xl_pure rfl rfl rfl (pv_move (v := .int _ _) rfl rfl) ?_
              refine xl_dec rfl rfl rfl (pv_gtr rfl rfl rfl) (fun h10_4 => ?_) (fun h10_4 => ?_)
              · skip
                refine xl_pure rfl rfl rfl (pv_pick_f (v := .bool _) rfl rfl rfl) ?_
                refine xl_nil ?_
                refine xthen_normal ?_
                refine xc_cond_t rfl ?_
                refine xc_seq ?_
                refine xc_region ?_
                refine xl_pure rfl rfl rfl (pv_assign (v := .pointer _) rfl rfl) ?_
                refine xl_pure rfl rfl rfl (pv_assign (v := .int _ _) rfl rfl) ?_
                refine xl_nil ?_
                refine xthen_normal ?_
                refine xc_ret ?_
                refine xthen_ret ?_
                refine xblock_ret ?_
                refine xthen_ret ?_
                refine xthen_ret ?_
                refine xblock_ret ?_
                refine xblock_ret ?_
                refine xthen_ret ?_
                refine xthen_ret ?_
                refine xblock_ret ?_
                refine xthen_ret ?_
                refine fin_ret (res2 (v := .pointer _) (x := .int _ _) rfl rfl rfl) ?_
                exact ⟨.inr ⟨okN_no (sls_mem (show k < l.length by omega) (show i < 2 by omega)) (fun h => by have h1 := h.1; have h2 := h.2; omega), rfl⟩, hX⟩
              · skip
                refine xl_pure rfl rfl rfl (pv_pick_f (v := .bool _) rfl rfl rfl) ?_
                refine xl_nil ?_
                refine xthen_normal ?_
                refine xc_cond_f rfl ?_
                refine xc_skip ?_
                refine xthen_normal ?_
                refine xc_region ?_
                refine xl_pure rfl rfl rfl (pv_move (v := .pointer _) rfl rfl) ?_
                refine xl_pure rfl rfl rfl (pv_move (v := .pointer _) rfl rfl) ?_
                refine xl_pure rfl rfl rfl (pv_nilCheck_p rfl rfl) ?_
                refine xl_pure rfl rfl rfl (pv_fieldAddr rfl rfl) ?_
                refine xl_light rfl rfl rfl (lv_load (v := .slice _ _ _) rfl rfl (ld_blk mp rfl)) ?_
                refine xl_pure rfl rfl rfl (pv_move (v := .int _ _) rfl rfl) ?_
                refine xl_pure rfl rfl rfl (pv_build_s (cs := [.int _ _, .slice _ _ _, .slice _ _ _]) rfl rfl rfl) ?_
                refine xl_heavy rfl rfl rfl (hv_buildSlice (cs := [.int _ _, .slice _ _ _, .slice _ _ _]) rfl rfl rfl rfl rfl) ?_
                rintro v12_7 H12_7 ⟨b12_7, rfl, hN12_7⟩
                have gb12_7 := hX.fresh hN12_7
                have pm12_7_ho := ho.apartN hN12_7
                have nmp_12_7 := mp.apart hN12_7
                have ho := ho.ext hN12_7.ext
                have hm := hm.ext hN12_7.ext
                have mp := mp.ext hN12_7.ext
                have hX := hX.trans hN12_7.ext
                have m12_7 := hN12_7.blk
                refine xl_heavy rfl rfl rfl (hv_append (size := 3) rfl rfl ho rfl m12_7.row rfl (by simp [Value.oneCell']) rfl (by decide) (by omega) (by omega) hX.size) ?_
                rintro v12_8 H12_8 ⟨hO12_8, hG12_8, -, hB12_8⟩
                have hm := hm.growT ho hG12_8 (by first | rfl | assumption)
                have mp := mp.offT ho hG12_8 rfl
                have hX := ho.grown hX hG12_8 (Nat.le_refl _)
                obtain ⟨a12_8, c12_8, rfl⟩ := hO12_8.val
                refine xl_pure rfl rfl rfl (pv_nilCheck_p rfl rfl) ?_
                refine xl_pure rfl rfl rfl (pv_fieldAddr rfl rfl) ?_
                refine xl_store rfl rfl (hv_store (vs := [.slice _ _ _]) rfl rfl rfl (mp) rfl (Nat.le_of_ble_eq_true rfl) rfl) ?_
                rintro v12_11 H12_11 ⟨hU12_11, hZ12_11⟩
                have hm := hm.offT mp hU12_11.but (by first | rfl | assumption)
                have hO12_8 := hO12_8.offU mp hU12_11.but (.inl rfl)
                have hX := hX.upd hU12_11.but gb3_2
                have mp := hU12_11.blk
                refine xl_nil ?_
                refine xblock_normal ?_
                refine xthen_normal ?_
                refine xc_region ?_
                refine xl_pure rfl rfl rfl (pv_add rfl rfl rfl (fit_i64 (by omega))) ?_
                refine xl_pure rfl rfl rfl (pv_move (v := .int _ _) rfl rfl) ?_
                refine xl_nil ?_
                refine xthen_normal ?_
                exact ⟨(i + 1, _, _), ⟨rfl, rfl, rfl, rfl, rfl, rfl, trivial⟩, ⟨by (try simp only); omega, by rw [two_next (by omega), ← List.append_assoc]; exact ok_all hok ⟨by omega, by omega⟩, mp, by rw [two_next (by omega), ← List.append_assoc, fE_mk]; exact hO12_8, hm, hX⟩, by (try simp only); omega⟩
          · skip
            refine xl_nil ?_
            refine xthen_normal ?_
            refine xc_seq ?_
            refine xc_cond_f rfl ?_
            refine xc_exit ?_
            refine xthen_exit ?_
            refine xthen_exit ?_
            refine xblock_same ?_
            refine xblock_normal ?_
            refine xthen_normal ?_
            refine xc_region ?_
            refine xl_pure rfl rfl rfl (pv_add rfl rfl rfl (fit_i64 (by omega))) ?_
            refine xl_pure rfl rfl rfl (pv_move (v := .int _ _) rfl rfl) ?_
            refine xl_nil ?_
            refine xthen_normal ?_
            exact ⟨(k + 1, _, _), ⟨rfl, rfl, rfl, rfl, trivial⟩, ⟨by (try simp only); omega, by have hi2 : i = 2 := (by omega); rw [hi2] at hok; show ∀ n ∈ sls (l.take (k + 1)), okS n; rw [sls_take (by omega)]; exact hok, by have hi2 : i = 2 := (by omega); have e : 2 * (k + 1) = 2 * k + 2 := (by omega); have h := mp; rw [hi2, ← e] at h; exact h, by have hi2 : i = 2 := (by omega); have e : 2 * (k + 1) = 2 * k + 2 := (by omega); have h := ho; rw [hi2, ← e] at h; show Own _ _ 69 3 _ _ (fE ((sls (l.take (k + 1))).map mkE)); rw [sls_take (by omega)]; exact h, hm, hX⟩, by (try simp only); omega⟩
      · skip
        refine xl_nil ?_
        refine xthen_normal ?_
        refine xc_seq ?_
        refine xc_cond_f rfl ?_
        refine xc_exit ?_
        refine xthen_exit ?_
        refine xthen_exit ?_
        refine xblock_same ?_
        refine xthen_normal ?_
        refine xc_seq ?_
        refine xc_region ?_
        refine xl_pure rfl rfl rfl (pv_move (v := .pointer _) rfl rfl) ?_
        refine xl_pure rfl rfl rfl (pv_assign (v := .pointer _) rfl rfl) ?_
        refine xl_pure rfl rfl rfl (pv_assign (v := .int _ _) rfl rfl) ?_
        refine xl_nil ?_
        refine xthen_normal ?_
        refine xc_ret ?_
        refine fin_ret (res2 (v := .pointer _) (x := .int _ _) rfl rfl rfl) ?_
        obtain rfl : k = l.length := by omega
        rw [List.take_length] at hok ho
        exact ⟨.inl ⟨⟨by omega, hok⟩, b3_2, rfl, new_BB mp ho hm gb3_2.le gm⟩, hX⟩
end Go.XG
