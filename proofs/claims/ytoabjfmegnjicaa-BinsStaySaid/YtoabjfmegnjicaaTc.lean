/-
  Walks of the seat's functions over the logic XG: each function, what it computes. Printed by a program out of wip/walks.py.
-/
import Derived.Test.YtoabjfmegnjicaaI
import Derived.Test.YtoabjfmegnjicaaTo
import Derived.Test.YtoabjfmegnjicaaTa
import Derived.Test.YtoabjfmegnjicaaTb
namespace Go.XG
open Go.Proofs
set_option maxRecDepth 4000
set_option maxHeartbeats 4000000
theorem c52 {O : Outer} {H : Heap} {bt t c : Nat} {rest : List Value} {a : Option Addr} {l : List (List Int)} (mt : Blk H bt (.slice a l.length c :: rest) t) (hR : RowsT H 88 5 a l) (hne : Nat.beq t 88 = false) (hs : Srt l) (hc : l.length ≤ c) (hna : a = none → c = 0) (hl : l.length < 1099511627776) (k : List Int) (hk : k.length = 4) :
    FnC Try.prog 52 #[.pointer (some ⟨bt, 0, none⟩), .agg (ints k).toArray] O H (fun v H' => ∃ a' c', v = .bool (hasK l k) ∧ Upd H H' bt (.slice a' (delR l k).length c' :: rest) t ∧ RowsT H' 88 5 a' (delR l k) ∧ (delR l k).length ≤ c' ∧ (a' = none → c' = 0)) := by
  refine fn_enter (A := [.pointer (some ⟨bt, 0, none⟩), .agg (ints k).toArray]) Try.func52 rfl rfl ?_
  have hX := But.refl bt H
  refine xc_seq ?_
  refine xc_region ?_
  refine xl_heavy rfl rfl rfl (hv_box rfl rfl) ?_
  rintro v0_0 H0_0 ⟨b0_0, rfl, hN0_0⟩
  have gb0_0 := hX.fresh hN0_0
  have nmt_0_0 := mt.apart hN0_0
  have mt := mt.ext hN0_0.ext
  have hR := hR.ext hN0_0.ext
  have hX := hX.transE hN0_0.ext
  have m0_0 := hN0_0.blk
  refine xl_pure rfl rfl rfl (pv_assign (v := .bool _) rfl rfl) ?_
  refine xl_nil ?_
  refine xthen_normal ?_
  refine xc_seq ?_
  refine xc_region ?_
  refine xl_pure rfl rfl rfl (pv_move (v := .pointer _) rfl rfl) ?_
  refine xl_light rfl rfl rfl (lv_load (v := .agg _) rfl rfl (ld_ints m0_0 hk)) ?_
  refine xl_heavy rfl rfl rfl (hv_call (g := 46) rfl rfl (c46 mt hR hne hs hc hna hl k hk) rfl) ?_
  rintro v1_2 H1_2 ⟨rfl, hE1_2⟩
  have mt := mt.ext hE1_2
  have hR := hR.ext hE1_2
  have m0_0 := m0_0.ext hE1_2
  have hX := hX.transE hE1_2
  cases hh1_2 : hasK l k
  · skip
    refine xl_pure rfl rfl rfl (pv_move (v := .tuple _) rfl rfl) ?_
    refine xl_pure rfl rfl rfl (pv_extract (v := .int _ _) rfl rfl rfl) ?_
    refine xl_pure rfl rfl rfl (pv_extract (v := .bool _) rfl rfl rfl) ?_
    refine xl_pure rfl rfl rfl (pv_assign (v := .int _ _) rfl rfl) ?_
    refine xl_pure rfl rfl rfl (pv_assign (v := .bool _) rfl rfl) ?_
    refine xl_nil ?_
    refine xthen_normal ?_
    refine xc_seq ?_
    refine xc_seq ?_
    refine xc_region ?_
    refine xl_pure rfl rfl rfl (pv_move (v := .bool _) rfl rfl) ?_
    refine xl_nil ?_
    refine xthen_normal ?_
    refine xc_cond_f rfl ?_
    refine xc_skip ?_
    refine xthen_normal ?_
    refine xc_seq ?_
    refine xc_region ?_
    refine xl_pure rfl rfl rfl (pv_move (v := .bool _) rfl rfl) ?_
    refine xl_pure rfl rfl rfl (pv_assign (v := .bool _) rfl rfl) ?_
    refine xl_nil ?_
    refine xthen_normal ?_
    refine xc_ret ?_
    refine fin_ret (res1 (v := .bool _) rfl rfl) ?_
    first
      | exact ⟨_, _, rfl, ⟨hX, mt⟩, hRn, hcn, hcap3_15⟩
      | (rw [del_no hh1_2]; exact ⟨_, _, rfl, ⟨hX, mt⟩, hR, hc, hna⟩)
  · skip
    refine xl_pure rfl rfl rfl (pv_move (v := .tuple _) rfl rfl) ?_
    refine xl_pure rfl rfl rfl (pv_extract (v := .int _ _) rfl rfl rfl) ?_
    refine xl_pure rfl rfl rfl (pv_extract (v := .bool _) rfl rfl rfl) ?_
    refine xl_pure rfl rfl rfl (pv_assign (v := .int _ _) rfl rfl) ?_
    refine xl_pure rfl rfl rfl (pv_assign (v := .bool _) rfl rfl) ?_
    refine xl_nil ?_
    refine xthen_normal ?_
    refine xc_seq ?_
    refine xc_seq ?_
    refine xc_region ?_
    refine xl_pure rfl rfl rfl (pv_move (v := .bool _) rfl rfl) ?_
    refine xl_nil ?_
    refine xthen_normal ?_
    refine xc_cond_t rfl ?_
    have hlt := has_lt hs hR.wide (by decide) hk hh1_2
    refine xp_start rfl (by repeat (first | with_reducible exact np_fin | with_reducible exact np_ret | with_reducible refine np_then ?_ | with_reducible refine np_block ?_)) (by kernel_rfl) ?_
    refine xp_pure (i := 0) rfl (by kernel_rfl) (by kernel_rfl) rfl rfl rfl (pv_move (v := .pointer _) rfl rfl) ?_
    refine xp_pure (i := 1) rfl (by kernel_rfl) (by kernel_rfl) rfl rfl rfl (pv_move (v := .pointer _) rfl rfl) ?_
    refine xp_pure (i := 2) rfl (by kernel_rfl) (by kernel_rfl) rfl rfl rfl (pv_nilCheck_p rfl rfl) ?_
    refine xp_pure (i := 3) rfl (by kernel_rfl) (by kernel_rfl) rfl rfl rfl (pv_fieldAddr rfl rfl) ?_
    refine xp_light (i := 4) rfl (by kernel_rfl) (by kernel_rfl) rfl rfl rfl (lv_load (v := .slice _ _ _) rfl rfl (by exact ld_blk mt rfl)) ?_
    refine xp_pure (i := 5) rfl (by kernel_rfl) (by kernel_rfl) rfl rfl rfl (pv_move (v := .int _ _) rfl rfl) ?_
    refine xp_pure (i := 6) rfl (by kernel_rfl) (by kernel_rfl) rfl rfl rfl (pv_move (v := .int _ _) rfl rfl) ?_
    refine xp_pure (i := 7) rfl (by kernel_rfl) (by kernel_rfl) rfl rfl rfl (pv_slice_l rfl rfl (.some rfl (by omega)) (.some rfl (by omega)) (.none _) (by omega) (by simp)) ?_
    refine xp_pure (i := 8) rfl (by kernel_rfl) (by kernel_rfl) rfl rfl rfl (pv_move (v := .pointer _) rfl rfl) ?_
    refine xp_pure (i := 9) rfl (by kernel_rfl) (by kernel_rfl) rfl rfl rfl (pv_nilCheck_p rfl rfl) ?_
    refine xp_pure (i := 10) rfl (by kernel_rfl) (by kernel_rfl) rfl rfl rfl (pv_fieldAddr rfl rfl) ?_
    refine xp_light (i := 11) rfl (by kernel_rfl) (by kernel_rfl) rfl rfl rfl (lv_load (v := .slice _ _ _) rfl rfl (by exact ld_blk mt rfl)) ?_
    refine xp_pure (i := 12) rfl (by kernel_rfl) (by kernel_rfl) rfl rfl rfl (pv_move (v := .int _ _) rfl rfl) ?_
    refine xp_pure (i := 13) rfl (by kernel_rfl) (by kernel_rfl) rfl rfl rfl (pv_add rfl rfl rfl (fit_i64 (by omega))) ?_
    refine xp_pure (i := 14) rfl (by kernel_rfl) (by kernel_rfl) rfl rfl rfl (pv_slice_l rfl rfl (.none _) (.none _) (.some rfl (by omega)) (by omega) (by simp)) ?_
    refine xp_heavy (i := 15) (by kernel_rfl) ?_
    refine xph_val rfl rfl rfl rfl (hv_append_both (size := 5) (l := l.take (bel l k)) (l' := l.drop (bel l k + 1)) rfl rfl (by simp; try omega) (by rw [cutA_0]; exact hR.take (by omega)) rfl (by simp; try omega) (by exact hR.cut (by omega) hc) rfl (by decide) (by omega) (by omega) (fun h => by rw [cutA_0] at h; have := hna h; omega)) (pk (by kernel_rfl) (pk (by kernel_rfl) pn)) ?_
    rintro v3_15 H3_15 ⟨a3_15, c3_15, rfl, hle3_15, hcap3_15, hRn, hE3_15⟩
    have mt := mt.ext hE3_15
    have hR := hR.ext hE3_15
    have m0_0 := m0_0.ext hE3_15
    have hX := hX.transE hE3_15
    have eL : (delR l k).length = bel l k - 0 + (l.length - (bel l k + 1)) := by rw [del_has hh1_2]; simp; omega
    replace hRn : RowsT H3_15 88 5 a3_15 (delR l k) := by rw [del_has hh1_2]; exact hRn
    have hcn : (delR l k).length ≤ c3_15 := by rw [eL]; exact hle3_15
    refine ⟨(okc (lv_load (v := .slice _ _ _) rfl rfl (by exact ld_blk mt rfl)) (okc (lv_load (v := .slice _ _ _) rfl rfl (by exact ld_blk mt rfl)) okn)), ?_⟩
    refine xp_pure (i := 16) rfl (by kernel_rfl) (by kernel_rfl) rfl rfl rfl (pv_nilCheck_p rfl rfl) ?_
    refine xp_pure (i := 17) rfl (by kernel_rfl) (by kernel_rfl) rfl rfl rfl (pv_fieldAddr rfl rfl) ?_
    refine xp_heavy (i := 18) (by kernel_rfl) ?_
    refine xph_store rfl rfl rfl (hv_store (vs := [.slice _ _ _]) rfl rfl rfl (mt) rfl (Nat.le_of_ble_eq_true rfl) rfl) (pd (by kernel_rfl) (pd (by kernel_rfl) pn)) ?_
    rintro v3_18 H3_18 ⟨hU3_18, hZ3_18⟩
    have hR := hR.offT mt hU3_18.but (by first | rfl | assumption)
    have m0_0 := m0_0.off hU3_18.but (by first | exact nmt_0_0.symm | exact ⟨m0_0.ne mt rfl⟩ | exact ⟨m0_0.ne mt (by assumption)⟩ | exact ⟨Ne.symm (mt.ne m0_0 (by assumption))⟩)
    have hRn := hRn.offT mt hU3_18.but (by first | rfl | assumption)
    have hX := hX.trans hU3_18.but
    have mt := hU3_18.blk
    replace mt : Blk H3_18 bt (.slice a3_15 (delR l k).length c3_15 :: rest) t := by rw [eL]; exact mt
    refine ⟨okn, ?_⟩
    refine xp_done (by kernel_rfl) ?_
    refine xthen_normal ?_
    refine xc_seq ?_
    refine xc_region ?_
    refine xl_pure rfl rfl rfl (pv_move (v := .bool _) rfl rfl) ?_
    refine xl_pure rfl rfl rfl (pv_assign (v := .bool _) rfl rfl) ?_
    refine xl_nil ?_
    refine xthen_normal ?_
    refine xc_ret ?_
    refine fin_ret (res1 (v := .bool _) rfl rfl) ?_
    first
      | exact ⟨_, _, rfl, ⟨hX, mt⟩, hRn, hcn, hcap3_15⟩
      | (rw [del_no hh1_2]; exact ⟨_, _, rfl, ⟨hX, mt⟩, hR, hc, hna⟩)

theorem c52n {O : Outer} {H : Heap}  (k : List Int) (hk : k.length = 4) :
    FnC Try.prog 52 #[.pointer none, .agg (ints k).toArray] O H (fun v H' => v = .bool false ∧ Ext H H') := by
  refine fn_enter (A := [.pointer none, .agg (ints k).toArray]) Try.func52 rfl rfl ?_
  have hX := Ext.refl H
  refine xc_seq ?_
  refine xc_region ?_
  refine xl_heavy rfl rfl rfl (hv_box rfl rfl) ?_
  rintro v0_0 H0_0 ⟨b0_0, rfl, hN0_0⟩
  have gb0_0 := hX.fresh hN0_0
  have hX := hX.trans hN0_0.ext
  have m0_0 := hN0_0.blk
  refine xl_pure rfl rfl rfl (pv_assign (v := .bool _) rfl rfl) ?_
  refine xl_nil ?_
  refine xthen_normal ?_
  refine xc_seq ?_
  refine xc_region ?_
  refine xl_pure rfl rfl rfl (pv_move (v := .pointer _) rfl rfl) ?_
  refine xl_light rfl rfl rfl (lv_load (v := .agg _) rfl rfl (ld_ints m0_0 hk)) ?_
  refine xl_heavy rfl rfl rfl (hv_call (g := 46) rfl rfl (c46n k hk) rfl) ?_
  rintro v1_2 H1_2 ⟨rfl, hE1_2⟩
  have m0_0 := m0_0.ext hE1_2
  have hX := hX.trans hE1_2
  refine xl_pure rfl rfl rfl (pv_move (v := .tuple _) rfl rfl) ?_
  refine xl_pure rfl rfl rfl (pv_extract (v := .int _ _) rfl rfl rfl) ?_
  refine xl_pure rfl rfl rfl (pv_extract (v := .bool _) rfl rfl rfl) ?_
  refine xl_pure rfl rfl rfl (pv_assign (v := .int _ _) rfl rfl) ?_
  refine xl_pure rfl rfl rfl (pv_assign (v := .bool _) rfl rfl) ?_
  refine xl_nil ?_
  refine xthen_normal ?_
  refine xc_seq ?_
  refine xc_seq ?_
  refine xc_region ?_
  refine xl_pure rfl rfl rfl (pv_move (v := .bool _) rfl rfl) ?_
  refine xl_nil ?_
  refine xthen_normal ?_
  refine xc_cond_f rfl ?_
  refine xc_skip ?_
  refine xthen_normal ?_
  refine xc_seq ?_
  refine xc_region ?_
  refine xl_pure rfl rfl rfl (pv_move (v := .bool _) rfl rfl) ?_
  refine xl_pure rfl rfl rfl (pv_assign (v := .bool _) rfl rfl) ?_
  refine xl_nil ?_
  refine xthen_normal ?_
  refine xc_ret ?_
  refine fin_ret (res1 (v := .bool _) rfl rfl) ?_
  exact ⟨rfl, hX⟩
end Go.XG
