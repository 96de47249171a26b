/-
  Walks of the seat's functions over the logic XG: each function, what it computes. Printed by a program out of wip/walks.py.
-/
import Derived.Test.YthglaedojgiifaaI
import Derived.Test.YthglaedojgiifaaTm
import Derived.Test.YthglaedojgiifaaTa
import Derived.Test.YthglaedojgiifaaTb
namespace Go.XG
open Go.Proofs
set_option maxRecDepth 4000
set_option maxHeartbeats 4000000
theorem c15 {O : Outer} {H : Heap} {bt t c : Nat} {rest : List Value} {a : Option Addr} {l : List (List Int)} (mt : Blk H bt (.slice a l.length c :: rest) t) (hR : RowsT H 69 5 a l) (hne : Nat.beq t 69 = false) (hs : Srt l) (hc : l.length ≤ c) (hna : a = none → c = 0) (hl : l.length < 1099511627776) (k : List Int) (hk : k.length = 4) :
    FnC Try.prog 15 #[.pointer (some ⟨bt, 0, none⟩), .agg (ints k).toArray] O H (fun v H' => ∃ a' c', v = .bool (hasK l k) ∧ Upd H H' bt (.slice a' (delR l k).length c' :: rest) t ∧ RowsT H' 69 5 a' (delR l k) ∧ (delR l k).length ≤ c' ∧ (a' = none → c' = 0)) := by
  refine fn_enter (A := [.pointer (some ⟨bt, 0, none⟩), .agg (ints k).toArray]) Try.func15 rfl rfl ?_
  have hX := But.refl bt H
  refine xc_seq ?_
  refine xc_region ?_
  refine xl_heavy rfl rfl rfl (hv_box rfl rfl) ?_
  rintro v0_0 H0_0 ⟨b0_0, rfl, hN0_0⟩
  have gb0_0 := hX.fresh hN0_0
  have nmt_0_0 := mt.apart hN0_0
  have mt := mt.ext hN0_0.ext
  have hR := hR.ext hN0_0.ext
  have hX := hX.transE hN0_0.ext
  have m0_0 := hN0_0.blk
  refine xl_pure rfl rfl rfl (pv_assign (v := .bool _) rfl rfl) ?_
  refine xl_nil ?_
  refine xthen_normal ?_
  refine xc_seq ?_
  refine xc_region ?_
  refine xl_pure rfl rfl rfl (pv_move (v := .pointer _) rfl rfl) ?_
  refine xl_light rfl rfl rfl (lv_load (v := .agg _) rfl rfl (ld_ints m0_0 hk)) ?_
  refine xl_heavy rfl rfl rfl (hv_call (g := 26) rfl rfl (c26 mt hR hne hs hc hna hl k hk) rfl) ?_
  rintro v1_2 H1_2 ⟨rfl, hE1_2⟩
  have mt := mt.ext hE1_2
  have hR := hR.ext hE1_2
  have m0_0 := m0_0.ext hE1_2
  have hX := hX.transE hE1_2
  cases hh1_2 : hasK l k
  · skip
    refine xl_pure rfl rfl rfl (pv_move (v := .tuple _) rfl rfl) ?_
    refine xl_pure rfl rfl rfl (pv_extract (v := .int _ _) rfl rfl rfl) ?_
    refine xl_pure rfl rfl rfl (pv_extract (v := .bool _) rfl rfl rfl) ?_
    refine xl_pure rfl rfl rfl (pv_assign (v := .int _ _) rfl rfl) ?_
    refine xl_pure rfl rfl rfl (pv_assign (v := .bool _) rfl rfl) ?_
    refine xl_nil ?_
    refine xthen_normal ?_
    refine xc_seq ?_
    refine xc_seq ?_
    refine xc_region ?_
    refine xl_pure rfl rfl rfl (pv_move (v := .bool _) rfl rfl) ?_
    refine xl_nil ?_
    refine xthen_normal ?_
    refine xc_cond_f rfl ?_
    refine xc_skip ?_
    refine xthen_normal ?_
    refine xc_seq ?_
    refine xc_region ?_
    refine xl_pure rfl rfl rfl (pv_move (v := .bool _) rfl rfl) ?_
    refine xl_pure rfl rfl rfl (pv_assign (v := .bool _) rfl rfl) ?_
    refine xl_nil ?_
    refine xthen_normal ?_
    refine xc_ret ?_
    refine fin_ret (res1 (v := .bool _) rfl rfl) ?_
    first
      | exact ⟨_, _, rfl, ⟨hX, mt⟩, hRn, hcn, hcap3_15⟩
      | (rw [del_no hh1_2]; exact ⟨_, _, rfl, ⟨hX, mt⟩, hR, hc, hna⟩)
  · skip
    refine xl_pure rfl rfl rfl (pv_move (v := .tuple _) rfl rfl) ?_
    refine xl_pure rfl rfl rfl (pv_extract (v := .int _ _) rfl rfl rfl) ?_
    refine xl_pure rfl rfl rfl (pv_extract (v := .bool _) rfl rfl rfl) ?_
    refine xl_pure rfl rfl rfl (pv_assign (v := .int _ _) rfl rfl) ?_
    refine xl_pure rfl rfl rfl (pv_assign (v := .bool _) rfl rfl) ?_
    refine xl_nil ?_
    refine xthen_normal ?_
    refine xc_seq ?_
    refine xc_seq ?_
    refine xc_region ?_
    refine xl_pure rfl rfl rfl (pv_move (v := .bool _) rfl rfl) ?_
    refine xl_nil ?_
    refine xthen_normal ?_
    refine xc_cond_t rfl ?_
    have hlt := has_lt hs hR.wide (by decide) hk hh1_2
    refine xp_start rfl (by repeat (first | with_reducible exact np_fin | with_reducible refine np_then ?_ | with_reducible refine np_block ?_)) (by kernel_rfl) ?_
    refine xp_pure (i := 0) rfl (by kernel_rfl) (by kernel_rfl) rfl rfl rfl (pv_move (v := .pointer _) rfl rfl) ?_
    refine xp_pure (i := 1) rfl (by kernel_rfl) (by kernel_rfl) rfl rfl rfl (pv_move (v := .pointer _) rfl rfl) ?_
    refine xp_pure (i := 2) rfl (by kernel_rfl) (by kernel_rfl) rfl rfl rfl (pv_nilCheck_p rfl rfl) ?_
    refine xp_pure (i := 3) rfl (by kernel_rfl) (by kernel_rfl) rfl rfl rfl (pv_fieldAddr rfl rfl) ?_
    refine xp_light (i := 4) rfl (by kernel_rfl) (by kernel_rfl) rfl rfl rfl (lv_load (v := .slice _ _ _) rfl rfl (by exact ld_blk mt rfl)) ?_
    refine xp_pure (i := 5) rfl (by kernel_rfl) (by kernel_rfl) rfl rfl rfl (pv_move (v := .int _ _) rfl rfl) ?_
    refine xp_pure (i := 6) rfl (by kernel_rfl) (by kernel_rfl) rfl rfl rfl (pv_move (v := .int _ _) rfl rfl) ?_
    refine xp_pure (i := 7) rfl (by kernel_rfl) (by kernel_rfl) rfl rfl rfl (pv_slice_l rfl rfl (.some rfl (by omega)) (.some rfl (by omega)) (.none _) (by omega) (by simp)) ?_
    refine xp_pure (i := 8) rfl (by kernel_rfl) (by kernel_rfl) rfl rfl rfl (pv_move (v := .pointer _) rfl rfl) ?_
    refine xp_pure (i := 9) rfl (by kernel_rfl) (by kernel_rfl) rfl rfl rfl (pv_nilCheck_p rfl rfl) ?_
    refine xp_pure (i := 10) rfl (by kernel_rfl) (by kernel_rfl) rfl rfl rfl (pv_fieldAddr rfl rfl) ?_
    refine xp_light (i := 11) rfl (by kernel_rfl) (by kernel_rfl) rfl rfl rfl (lv_load (v := .slice _ _ _) rfl rfl (by exact ld_blk mt rfl)) ?_
    refine xp_pure (i := 12) rfl (by kernel_rfl) (by kernel_rfl) rfl rfl rfl (pv_move (v := .int _ _) rfl rfl) ?_
    refine xp_pure (i := 13) rfl (by kernel_rfl) (by kernel_rfl) rfl rfl rfl (pv_add rfl rfl rfl (fit_i64 (by omega))) ?_
    refine xp_pure (i := 14) rfl (by kernel_rfl) (by kernel_rfl) rfl rfl rfl (pv_slice_l rfl rfl (.none _) (.none _) (.some rfl (by omega)) (by omega) (by simp)) ?_
    refine xp_heavy (i := 15) (by kernel_rfl) ?_
    refine xph_val rfl rfl rfl rfl (hv_append_both (size := 5) (l := l.take (bel l k)) (l' := l.drop (bel l k + 1)) rfl rfl (by simp; try omega) (by rw [cutA_0]; exact hR.take (by omega)) rfl (by simp; try omega) (by exact hR.cut (by omega) hc) rfl (by decide) (by omega) (by omega) (fun h => by rw [cutA_0] at h; have := hna h; omega)) (pk (by kernel_rfl) (pk (by kernel_rfl) pn)) ?_
    rintro v3_15 H3_15 ⟨a3_15, c3_15, rfl, hle3_15, hcap3_15, hRn, hE3_15⟩
    have mt := mt.ext hE3_15
    have hR := hR.ext hE3_15
    have m0_0 := m0_0.ext hE3_15
    have hX := hX.transE hE3_15
    have eL : (delR l k).length = bel l k - 0 + (l.length - (bel l k + 1)) := by rw [del_has hh1_2]; simp; omega
    replace hRn : RowsT H3_15 69 5 a3_15 (delR l k) := by rw [del_has hh1_2]; exact hRn
    have hcn : (delR l k).length ≤ c3_15 := by rw [eL]; exact hle3_15
    refine ⟨(okc (lv_load (v := .slice _ _ _) rfl rfl (by exact ld_blk mt rfl)) (okc (lv_load (v := .slice _ _ _) rfl rfl (by exact ld_blk mt rfl)) okn)), ?_⟩
    refine xp_pure (i := 16) rfl (by kernel_rfl) (by kernel_rfl) rfl rfl rfl (pv_nilCheck_p rfl rfl) ?_
    refine xp_pure (i := 17) rfl (by kernel_rfl) (by kernel_rfl) rfl rfl rfl (pv_fieldAddr rfl rfl) ?_
    refine xp_heavy (i := 18) (by kernel_rfl) ?_
    refine xph_store rfl rfl rfl (hv_store (vs := [.slice _ _ _]) rfl rfl rfl (mt) rfl (Nat.le_of_ble_eq_true rfl) rfl) (pd (by kernel_rfl) (pd (by kernel_rfl) pn)) ?_
    rintro v3_18 H3_18 ⟨hU3_18, hZ3_18⟩
    have hR := hR.offT mt hU3_18.but (by first | rfl | assumption)
    have m0_0 := m0_0.off hU3_18.but (by first | exact nmt_0_0.symm | exact ⟨m0_0.ne mt rfl⟩ | exact ⟨m0_0.ne mt (by assumption)⟩ | exact ⟨Ne.symm (mt.ne m0_0 (by assumption))⟩)
    have hRn := hRn.offT mt hU3_18.but (by first | rfl | assumption)
    have hX := hX.trans hU3_18.but
    have mt := hU3_18.blk
    replace mt : Blk H3_18 bt (.slice a3_15 (delR l k).length c3_15 :: rest) t := by rw [eL]; exact mt
    refine ⟨okn, ?_⟩
    refine xp_done (by kernel_rfl) ?_
    refine xthen_normal ?_
    refine xc_seq ?_
    refine xc_region ?_
    refine xl_pure rfl rfl rfl (pv_move (v := .bool _) rfl rfl) ?_
    refine xl_pure rfl rfl rfl (pv_assign (v := .bool _) rfl rfl) ?_
    refine xl_nil ?_
    refine xthen_normal ?_
    refine xc_ret ?_
    refine fin_ret (res1 (v := .bool _) rfl rfl) ?_
    first
      | exact ⟨_, _, rfl, ⟨hX, mt⟩, hRn, hcn, hcap3_15⟩
      | (rw [del_no hh1_2]; exact ⟨_, _, rfl, ⟨hX, mt⟩, hR, hc, hna⟩)

theorem c15n {O : Outer} {H : Heap}  (k : List Int) (hk : k.length = 4) :
    FnC Try.prog 15 #[.pointer none, .agg (ints k).toArray] O H (fun v H' => v = .bool false ∧ Ext H H') := by
  refine fn_enter (A := [.pointer none, .agg (ints k).toArray]) Try.func15 rfl rfl ?_
  have hX := Ext.refl H
  refine xc_seq ?_
  refine xc_region ?_
  refine xl_heavy rfl rfl rfl (hv_box rfl rfl) ?_
  rintro v0_0 H0_0 ⟨b0_0, rfl, hN0_0⟩
  have gb0_0 := hX.fresh hN0_0
  have hX := hX.trans hN0_0.ext
  have m0_0 := hN0_0.blk
  refine xl_pure rfl rfl rfl (pv_assign (v := .bool _) rfl rfl) ?_
  refine xl_nil ?_
  refine xthen_normal ?_
  refine xc_seq ?_
  refine xc_region ?_
  refine xl_pure rfl rfl rfl (pv_move (v := .pointer _) rfl rfl) ?_
  refine xl_light rfl rfl rfl (lv_load (v := .agg _) rfl rfl (ld_ints m0_0 hk)) ?_
  refine xl_heavy rfl rfl rfl (hv_call (g := 26) rfl rfl (c26n k hk) rfl) ?_
  rintro v1_2 H1_2 ⟨rfl, hE1_2⟩
  have m0_0 := m0_0.ext hE1_2
  have hX := hX.trans hE1_2
  refine xl_pure rfl rfl rfl (pv_move (v := .tuple _) rfl rfl) ?_
  refine xl_pure rfl rfl rfl (pv_extract (v := .int _ _) rfl rfl rfl) ?_
  refine xl_pure rfl rfl rfl (pv_extract (v := .bool _) rfl rfl rfl) ?_
  refine xl_pure rfl rfl rfl (pv_assign (v := .int _ _) rfl rfl) ?_
  refine xl_pure rfl rfl rfl (pv_assign (v := .bool _) rfl rfl) ?_
  refine xl_nil ?_
  refine xthen_normal ?_
  refine xc_seq ?_
  refine xc_seq ?_
  refine xc_region ?_
  refine xl_pure rfl rfl rfl (pv_move (v := .bool _) rfl rfl) ?_
  refine xl_nil ?_
  refine xthen_normal ?_
  refine xc_cond_f rfl ?_
  refine xc_skip ?_
  refine xthen_normal ?_
  refine xc_seq ?_
  refine xc_region ?_
  refine xl_pure rfl rfl rfl (pv_move (v := .bool _) rfl rfl) ?_
  refine xl_pure rfl rfl rfl (pv_assign (v := .bool _) rfl rfl) ?_
  refine xl_nil ?_
  refine xthen_normal ?_
  refine xc_ret ?_
  refine fin_ret (res1 (v := .bool _) rfl rfl) ?_
  exact ⟨rfl, hX⟩

theorem c18 {O : Outer} {H : Heap} {bt t n c : Nat} {rest : List Value} {a : Option Addr} (mt : Blk H bt (.slice a n c :: rest) t) :
    FnC Try.prog 18 #[.pointer (some ⟨bt, 0, none⟩)] O H (fun v H' => v = .int .i64 (n : Nat) ∧ H = H') := by
  refine fn_enter (A := [.pointer (some ⟨bt, 0, none⟩)]) Try.func18 rfl rfl ?_
  have hX := Ext.refl H
  refine xc_seq ?_
  refine xc_region ?_
  refine xl_pure rfl rfl rfl (pv_assign (v := .int _ _) rfl rfl) ?_
  refine xl_nil ?_
  refine xthen_normal ?_
  refine xc_seq ?_
  refine xc_region ?_
  refine xl_pure rfl rfl rfl (pv_move (v := .pointer _) rfl rfl) ?_
  refine xl_heavy rfl rfl rfl (hv_call (g := 31) rfl rfl (c31 mt) rfl) ?_
  rintro v1_1 H1_1 ⟨rfl, rfl⟩
  refine xl_pure rfl rfl rfl (pv_len_l rfl rfl) ?_
  refine xl_pure rfl rfl rfl (pv_assign (v := .int _ _) rfl rfl) ?_
  refine xl_nil ?_
  refine xthen_normal ?_
  refine xc_ret ?_
  refine fin_ret (res1 (v := .int _ _) rfl rfl) ?_
  exact ⟨rfl, rfl⟩

theorem c18n {O : Outer} {H : Heap}  :
    FnC Try.prog 18 #[.pointer none] O H (fun v H' => v = .int .i64 0 ∧ H = H') := by
  refine fn_enter (A := [.pointer none]) Try.func18 rfl rfl ?_
  have hX := Ext.refl H
  refine xc_seq ?_
  refine xc_region ?_
  refine xl_pure rfl rfl rfl (pv_assign (v := .int _ _) rfl rfl) ?_
  refine xl_nil ?_
  refine xthen_normal ?_
  refine xc_seq ?_
  refine xc_region ?_
  refine xl_pure rfl rfl rfl (pv_move (v := .pointer _) rfl rfl) ?_
  refine xl_heavy rfl rfl rfl (hv_call (g := 31) rfl rfl (c31n) rfl) ?_
  rintro v1_1 H1_1 ⟨rfl, rfl⟩
  refine xl_pure rfl rfl rfl (pv_len_l rfl rfl) ?_
  refine xl_pure rfl rfl rfl (pv_assign (v := .int _ _) rfl rfl) ?_
  refine xl_nil ?_
  refine xthen_normal ?_
  refine xc_ret ?_
  refine fin_ret (res1 (v := .int _ _) rfl rfl) ?_
  exact ⟨rfl, rfl⟩

theorem c22 {O : Outer} {H : Heap} {bt t c : Nat} {rest : List Value} {a : Option Addr} {l : List (List Int)} (mt : Blk H bt (.slice a l.length c :: rest) t) (hR : RowsT H 69 5 a l) (hne : Nat.beq t 69 = false) (hs : Srt l) (hc : l.length ≤ c) (hna : a = none → c = 0) (hl : l.length < 1099511627776) (i : Int) :
    FnC Try.prog 22 #[.pointer (some ⟨bt, 0, none⟩), .int .i64 i] O H (fun v H' => (0 ≤ i ∧ i < l.length ∧ v = .tuple #[.agg (ints (ky (gr l i.toNat))).toArray, .int .i64 ((gr l i.toNat).getD 4 0), .bool true] ∨ ¬ (0 ≤ i ∧ i < l.length) ∧ v = .tuple #[.agg #[.int .i64 0, .int .i64 0, .int .i64 0, .int .i64 0], .int .i64 0, .bool false]) ∧ Ext H H') := by
  refine fn_enter (A := [.pointer (some ⟨bt, 0, none⟩), .int .i64 i]) Try.func22 rfl rfl ?_
  have hX := Ext.refl H
  refine xc_seq ?_
  refine xc_region ?_
  refine xl_heavy rfl rfl rfl (hv_alloc rfl rfl) ?_
  rintro v0_0 H0_0 ⟨b0_0, rfl, hN0_0⟩
  have gb0_0 := hX.fresh hN0_0
  have nmt_0_0 := mt.apart hN0_0
  have mt := mt.ext hN0_0.ext
  have hR := hR.ext hN0_0.ext
  have hX := hX.trans hN0_0.ext
  have m0_0 := hN0_0.blk
  refine xl_pure rfl rfl rfl (pv_assign (v := .int _ _) rfl rfl) ?_
  refine xl_pure rfl rfl rfl (pv_assign (v := .bool _) rfl rfl) ?_
  refine xl_nil ?_
  refine xthen_normal ?_
  refine xc_seq ?_
  refine xc_seq ?_
  refine xc_region ?_
  refine xl_pure rfl rfl rfl (pv_move (v := .int _ _) rfl rfl) ?_
  refine xl_dec rfl rfl rfl (pv_lss rfl rfl rfl) (fun h1_1 => ?_) (fun h1_1 => ?_)
  · skip
    refine xl_pure rfl rfl rfl (pv_move (v := .bool _) rfl rfl) ?_
    refine xl_skip rfl rfl rfl ?_
    refine xl_skip rfl rfl rfl ?_
    refine xl_skip rfl rfl rfl ?_
    refine xl_skip rfl rfl rfl ?_
    refine xl_pure rfl rfl rfl (pv_pick_t (v := .bool _) rfl rfl rfl) ?_
    refine xl_nil ?_
    refine xthen_normal ?_
    refine xc_cond_t rfl ?_
    refine xc_seq ?_
    refine xc_region ?_
    refine xl_pure rfl rfl rfl (pv_assign (v := .int _ _) rfl rfl) ?_
    refine xl_nil ?_
    refine xthen_normal ?_
    refine xc_seq ?_
    refine xc_region ?_
    refine xl_pure rfl rfl rfl (pv_build_a (cs := [.int _ _, .int _ _, .int _ _, .int _ _]) rfl rfl rfl) ?_
    refine xl_pure rfl rfl rfl (pv_move (v := .int _ _) rfl rfl) ?_
    refine xl_store rfl rfl (hv_storeA (vs := [.int _ _, .int _ _, .int _ _, .int _ _]) rfl rfl rfl (m0_0) rfl (by rfl) rfl) ?_
    rintro v3_2 H3_2 ⟨hU3_2, hZ3_2⟩
    have mt := mt.off hU3_2.but (by first | exact nmt_0_0 | exact ⟨mt.ne m0_0 rfl⟩ | exact ⟨mt.ne m0_0 (by assumption)⟩ | exact ⟨Ne.symm (m0_0.ne mt (by assumption))⟩)
    have hR := hR.offT m0_0 hU3_2.but (by first | rfl | assumption)
    have hX := hX.upd hU3_2.but gb0_0
    have m0_0 := hU3_2.blk
    refine xl_pure rfl rfl rfl (pv_assign (v := .int _ _) rfl rfl) ?_
    refine xl_pure rfl rfl rfl (pv_assign (v := .bool _) rfl rfl) ?_
    refine xl_nil ?_
    refine xthen_normal ?_
    refine xc_ret ?_
    refine xthen_ret ?_
    refine fin_ret (resv3 rfl (rv_c (ty := 23) rfl (ld_blk_a m0_0 rfl rfl)) (rv_t (v := .int _ _) rfl) (rv_t (v := .bool _) rfl)) ?_
    exact ⟨.inr ⟨by omega, rfl⟩, hX⟩
  · skip
    refine xl_pure rfl rfl rfl (pv_move (v := .bool _) rfl rfl) ?_
    refine xl_pure rfl rfl rfl (pv_move (v := .int _ _) rfl rfl) ?_
    refine xl_pure rfl rfl rfl (pv_move (v := .pointer _) rfl rfl) ?_
    refine xl_heavy rfl rfl rfl (hv_call (g := 18) rfl rfl (c18 mt) rfl) ?_
    rintro v1_5 H1_5 ⟨rfl, rfl⟩
    refine xl_dec rfl rfl rfl (pv_geq rfl rfl rfl) (fun h1_6 => ?_) (fun h1_6 => ?_)
    · skip
      refine xl_pure rfl rfl rfl (pv_pick_f (v := .bool _) rfl rfl rfl) ?_
      refine xl_nil ?_
      refine xthen_normal ?_
      refine xc_cond_t rfl ?_
      refine xc_seq ?_
      refine xc_region ?_
      refine xl_pure rfl rfl rfl (pv_assign (v := .int _ _) rfl rfl) ?_
      refine xl_nil ?_
      refine xthen_normal ?_
      refine xc_seq ?_
      refine xc_region ?_
      refine xl_pure rfl rfl rfl (pv_build_a (cs := [.int _ _, .int _ _, .int _ _, .int _ _]) rfl rfl rfl) ?_
      refine xl_pure rfl rfl rfl (pv_move (v := .int _ _) rfl rfl) ?_
      refine xl_store rfl rfl (hv_storeA (vs := [.int _ _, .int _ _, .int _ _, .int _ _]) rfl rfl rfl (m0_0) rfl (by rfl) rfl) ?_
      rintro v3_2 H3_2 ⟨hU3_2, hZ3_2⟩
      have mt := mt.off hU3_2.but (by first | exact nmt_0_0 | exact ⟨mt.ne m0_0 rfl⟩ | exact ⟨mt.ne m0_0 (by assumption)⟩ | exact ⟨Ne.symm (m0_0.ne mt (by assumption))⟩)
      have hR := hR.offT m0_0 hU3_2.but (by first | rfl | assumption)
      have hX := hX.upd hU3_2.but gb0_0
      have m0_0 := hU3_2.blk
      refine xl_pure rfl rfl rfl (pv_assign (v := .int _ _) rfl rfl) ?_
      refine xl_pure rfl rfl rfl (pv_assign (v := .bool _) rfl rfl) ?_
      refine xl_nil ?_
      refine xthen_normal ?_
      refine xc_ret ?_
      refine xthen_ret ?_
      refine fin_ret (resv3 rfl (rv_c (ty := 23) rfl (ld_blk_a m0_0 rfl rfl)) (rv_t (v := .int _ _) rfl) (rv_t (v := .bool _) rfl)) ?_
      exact ⟨.inr ⟨by omega, rfl⟩, hX⟩
    · skip
      refine xl_pure rfl rfl rfl (pv_pick_f (v := .bool _) rfl rfl rfl) ?_
      refine xl_nil ?_
      refine xthen_normal ?_
      refine xc_cond_f rfl ?_
      refine xc_skip ?_
      refine xthen_normal ?_
      refine xc_seq ?_
      have hwi := hR.wide.get (show i.toNat < l.length by omega)
      obtain ⟨ba, off, hae⟩ := hR.at
      refine xc_region ?_
      refine xl_pure rfl rfl rfl (pv_move (v := .pointer _) rfl rfl) ?_
      refine xl_pure rfl rfl rfl (pv_nilCheck_p rfl rfl) ?_
      refine xl_pure rfl rfl rfl (pv_fieldAddr rfl rfl) ?_
      refine xl_light rfl rfl rfl (lv_load (v := .slice _ _ _) rfl rfl (ld_blk mt rfl)) ?_
      refine xl_pure rfl rfl rfl (pv_move (v := .int _ _) rfl rfl) ?_
      refine xl_pure rfl rfl rfl (pv_indexAddr_l rfl (sl_eq (hae (by omega)).1) rfl (by omega)) ?_
      refine xl_light rfl rfl rfl (lv_load (v := .agg _) rfl rfl (by exact ld_row' (hae (by omega)).2 hR.wide (by omega))) ?_
      refine xl_heavy rfl rfl rfl (hv_alloc rfl rfl) ?_
      rintro v4_7 H4_7 ⟨b4_7, rfl, hN4_7⟩
      have gb4_7 := hX.fresh hN4_7
      have nmt_4_7 := mt.apart hN4_7
      have nm0_0_4_7 := m0_0.apart hN4_7
      have mt := mt.ext hN4_7.ext
      have m0_0 := m0_0.ext hN4_7.ext
      have hX := hX.trans hN4_7.ext
      have m4_7 := hN4_7.blk
      refine xl_store rfl rfl (hv_storeA (vs := ints (gr l i.toNat)) rfl rfl rfl (m4_7) (ints_ten hwi) (by rfl) (ints_one _)) ?_
      rintro v4_8 H4_8 ⟨hU4_8, hZ4_8⟩
      have mt := mt.off hU4_8.but (by first | exact nmt_4_7 | exact ⟨mt.ne m4_7 rfl⟩ | exact ⟨mt.ne m4_7 (by assumption)⟩ | exact ⟨Ne.symm (m4_7.ne mt (by assumption))⟩)
      have m0_0 := m0_0.off hU4_8.but (by first | exact nm0_0_4_7 | exact ⟨m0_0.ne m4_7 rfl⟩ | exact ⟨m0_0.ne m4_7 (by assumption)⟩ | exact ⟨Ne.symm (m4_7.ne m0_0 (by assumption))⟩)
      have hX := hX.upd hU4_8.but gb4_7
      have m4_7 := hU4_8.blk
      refine xl_nil ?_
      refine xthen_normal ?_
      refine xc_seq ?_
      refine xp_start rfl (by repeat (first | with_reducible exact np_fin | with_reducible refine np_then ?_ | with_reducible refine np_block ?_)) (by kernel_rfl) ?_
      refine xp_pure (i := 0) rfl (by kernel_rfl) (by kernel_rfl) rfl rfl rfl (pv_fieldAddr rfl rfl) ?_
      refine xp_light (i := 1) rfl (by kernel_rfl) (by kernel_rfl) rfl rfl rfl (lv_load (v := .agg _) rfl rfl (by exact ld_ky m4_7 (by omega))) ?_
      refine xp_pure (i := 2) rfl (by kernel_rfl) (by kernel_rfl) rfl rfl rfl (pv_fieldAddr rfl rfl) ?_
      refine xp_light (i := 3) rfl (by kernel_rfl) (by kernel_rfl) rfl rfl rfl (lv_load (v := .int _ _) rfl rfl (by exact ld_get (i := 4) m4_7 (by omega))) ?_
      refine xp_heavy (i := 4) (by kernel_rfl) ?_
      refine xph_store rfl rfl rfl (hv_storeA (vs := ints (ky (gr l i.toNat))) rfl rfl rfl (m0_0) (ints_ten (ky_len hwi (by decide))) (by rfl) (ints_one _)) (pk (by kernel_rfl) (pd (by kernel_rfl) pn)) ?_
      rintro v5_4 H5_4 ⟨hU5_4, hZ5_4⟩
      have mt := mt.off hU5_4.but (by first | exact nmt_0_0 | exact ⟨mt.ne m0_0 rfl⟩ | exact ⟨mt.ne m0_0 (by assumption)⟩ | exact ⟨Ne.symm (m0_0.ne mt (by assumption))⟩)
      have m4_7 := m4_7.off hU5_4.but (by first | exact nm0_0_4_7.symm | exact ⟨m4_7.ne m0_0 rfl⟩ | exact ⟨m4_7.ne m0_0 (by assumption)⟩ | exact ⟨Ne.symm (m0_0.ne m4_7 (by assumption))⟩)
      have hX := hX.upd hU5_4.but gb0_0
      have m0_0 := hU5_4.blk
      refine ⟨(okc (lv_load (v := .int _ _) rfl rfl (by exact ld_get (i := 4) m4_7 (by omega))) okn), ?_⟩
      refine xp_pure (i := 5) rfl (by kernel_rfl) (by kernel_rfl) rfl rfl rfl (pv_assign (v := .int _ _) rfl rfl) ?_
      refine xp_pure (i := 6) rfl (by kernel_rfl) (by kernel_rfl) rfl rfl rfl (pv_assign (v := .bool _) rfl rfl) ?_
      refine xp_done (by kernel_rfl) ?_
      refine xthen_normal ?_
      refine xc_ret ?_
      refine fin_ret (resv3 rfl (rv_c (ty := 23) rfl (ld_ints m0_0 (ky_len hwi (by decide)))) (rv_t (v := .int _ _) rfl) (rv_t (v := .bool _) rfl)) ?_
      exact ⟨.inl ⟨by omega, by omega, rfl⟩, hX⟩

theorem c22n {O : Outer} {H : Heap} (i : Int) :
    FnC Try.prog 22 #[.pointer none, .int .i64 i] O H (fun v H' => v = .tuple #[.agg #[.int .i64 0, .int .i64 0, .int .i64 0, .int .i64 0], .int .i64 0, .bool false] ∧ Ext H H') := by
  refine fn_enter (A := [.pointer none, .int .i64 i]) Try.func22 rfl rfl ?_
  have hX := Ext.refl H
  refine xc_seq ?_
  refine xc_region ?_
  refine xl_heavy rfl rfl rfl (hv_alloc rfl rfl) ?_
  rintro v0_0 H0_0 ⟨b0_0, rfl, hN0_0⟩
  have gb0_0 := hX.fresh hN0_0
  have hX := hX.trans hN0_0.ext
  have m0_0 := hN0_0.blk
  refine xl_pure rfl rfl rfl (pv_assign (v := .int _ _) rfl rfl) ?_
  refine xl_pure rfl rfl rfl (pv_assign (v := .bool _) rfl rfl) ?_
  refine xl_nil ?_
  refine xthen_normal ?_
  refine xc_seq ?_
  refine xc_seq ?_
  refine xc_region ?_
  refine xl_pure rfl rfl rfl (pv_move (v := .int _ _) rfl rfl) ?_
  refine xl_dec rfl rfl rfl (pv_lss rfl rfl rfl) (fun h1_1 => ?_) (fun h1_1 => ?_)
  · skip
    refine xl_pure rfl rfl rfl (pv_move (v := .bool _) rfl rfl) ?_
    refine xl_skip rfl rfl rfl ?_
    refine xl_skip rfl rfl rfl ?_
    refine xl_skip rfl rfl rfl ?_
    refine xl_skip rfl rfl rfl ?_
    refine xl_pure rfl rfl rfl (pv_pick_t (v := .bool _) rfl rfl rfl) ?_
    refine xl_nil ?_
    refine xthen_normal ?_
    refine xc_cond_t rfl ?_
    refine xc_seq ?_
    refine xc_region ?_
    refine xl_pure rfl rfl rfl (pv_assign (v := .int _ _) rfl rfl) ?_
    refine xl_nil ?_
    refine xthen_normal ?_
    refine xc_seq ?_
    refine xc_region ?_
    refine xl_pure rfl rfl rfl (pv_build_a (cs := [.int _ _, .int _ _, .int _ _, .int _ _]) rfl rfl rfl) ?_
    refine xl_pure rfl rfl rfl (pv_move (v := .int _ _) rfl rfl) ?_
    refine xl_store rfl rfl (hv_storeA (vs := [.int _ _, .int _ _, .int _ _, .int _ _]) rfl rfl rfl (m0_0) rfl (by rfl) rfl) ?_
    rintro v3_2 H3_2 ⟨hU3_2, hZ3_2⟩
    have hX := hX.upd hU3_2.but gb0_0
    have m0_0 := hU3_2.blk
    refine xl_pure rfl rfl rfl (pv_assign (v := .int _ _) rfl rfl) ?_
    refine xl_pure rfl rfl rfl (pv_assign (v := .bool _) rfl rfl) ?_
    refine xl_nil ?_
    refine xthen_normal ?_
    refine xc_ret ?_
    refine xthen_ret ?_
    refine fin_ret (resv3 rfl (rv_c (ty := 23) rfl (ld_blk_a m0_0 rfl rfl)) (rv_t (v := .int _ _) rfl) (rv_t (v := .bool _) rfl)) ?_
    exact ⟨rfl, hX⟩
  · skip
    refine xl_pure rfl rfl rfl (pv_move (v := .bool _) rfl rfl) ?_
    refine xl_pure rfl rfl rfl (pv_move (v := .int _ _) rfl rfl) ?_
    refine xl_pure rfl rfl rfl (pv_move (v := .pointer _) rfl rfl) ?_
    refine xl_heavy rfl rfl rfl (hv_call (g := 18) rfl rfl (c18n) rfl) ?_
    rintro v1_5 H1_5 ⟨rfl, rfl⟩
    refine xl_dec rfl rfl rfl (pv_geq rfl rfl rfl) (fun h1_6 => ?_) (fun h1_6 => ?_)
    · skip
      refine xl_pure rfl rfl rfl (pv_pick_f (v := .bool _) rfl rfl rfl) ?_
      refine xl_nil ?_
      refine xthen_normal ?_
      refine xc_cond_t rfl ?_
      refine xc_seq ?_
      refine xc_region ?_
      refine xl_pure rfl rfl rfl (pv_assign (v := .int _ _) rfl rfl) ?_
      refine xl_nil ?_
      refine xthen_normal ?_
      refine xc_seq ?_
      refine xc_region ?_
      refine xl_pure rfl rfl rfl (pv_build_a (cs := [.int _ _, .int _ _, .int _ _, .int _ _]) rfl rfl rfl) ?_
      refine xl_pure rfl rfl rfl (pv_move (v := .int _ _) rfl rfl) ?_
      refine xl_store rfl rfl (hv_storeA (vs := [.int _ _, .int _ _, .int _ _, .int _ _]) rfl rfl rfl (m0_0) rfl (by rfl) rfl) ?_
      rintro v3_2 H3_2 ⟨hU3_2, hZ3_2⟩
      have hX := hX.upd hU3_2.but gb0_0
      have m0_0 := hU3_2.blk
      refine xl_pure rfl rfl rfl (pv_assign (v := .int _ _) rfl rfl) ?_
      refine xl_pure rfl rfl rfl (pv_assign (v := .bool _) rfl rfl) ?_
      refine xl_nil ?_
      refine xthen_normal ?_
      refine xc_ret ?_
      refine xthen_ret ?_
      refine fin_ret (resv3 rfl (rv_c (ty := 23) rfl (ld_blk_a m0_0 rfl rfl)) (rv_t (v := .int _ _) rfl) (rv_t (v := .bool _) rfl)) ?_
      exact ⟨rfl, hX⟩
    · exfalso; omega

theorem c12 {O : Outer} {H : Heap} {bt t n c : Nat} {rest : List Value} {a : Option Addr} (mt : Blk H bt (.slice a n c :: rest) t) :
    FnC Try.prog 12 #[.pointer (some ⟨bt, 0, none⟩)] O H (fun v H' => ∃ b, v = .pointer (some ⟨b, 0, none⟩) ∧ New H H' b [.slice a n c] 32) := by
  refine fn_enter (A := [.pointer (some ⟨bt, 0, none⟩)]) Try.func12 rfl rfl ?_
  have hX := Ext.refl H
  refine xc_seq ?_
  refine xc_region ?_
  refine xl_pure rfl rfl rfl (pv_assign (v := .pointer _) rfl rfl) ?_
  refine xl_nil ?_
  refine xthen_normal ?_
  refine xc_seq ?_
  refine xc_region ?_
  refine xl_pure rfl rfl rfl (pv_move (v := .pointer _) rfl rfl) ?_
  refine xl_heavy rfl rfl rfl (hv_call (g := 31) rfl rfl (c31 mt) rfl) ?_
  rintro v1_1 H1_1 ⟨rfl, rfl⟩
  refine xl_pure rfl rfl rfl (pv_build_s (cs := [.slice _ _ _]) rfl rfl rfl) ?_
  refine xl_heavy rfl rfl rfl (hv_box rfl rfl) ?_
  rintro v1_3 H1_3 ⟨b1_3, rfl, hN1_3⟩
  have gb1_3 := hX.fresh hN1_3
  have nmt_1_3 := mt.apart hN1_3
  have mt := mt.ext hN1_3.ext
  have hX := hX.trans hN1_3.ext
  have m1_3 := hN1_3.blk
  refine xl_pure rfl rfl rfl (pv_assign (v := .pointer _) rfl rfl) ?_
  refine xl_nil ?_
  refine xthen_normal ?_
  refine xc_ret ?_
  refine fin_ret (res1 (v := .pointer _) rfl rfl) ?_
  exact ⟨_, rfl, hN1_3⟩

theorem c12n {O : Outer} {H : Heap}  :
    FnC Try.prog 12 #[.pointer none] O H (fun v H' => ∃ b, v = .pointer (some ⟨b, 0, none⟩) ∧ New H H' b [.slice none 0 0] 32) := by
  refine fn_enter (A := [.pointer none]) Try.func12 rfl rfl ?_
  have hX := Ext.refl H
  refine xc_seq ?_
  refine xc_region ?_
  refine xl_pure rfl rfl rfl (pv_assign (v := .pointer _) rfl rfl) ?_
  refine xl_nil ?_
  refine xthen_normal ?_
  refine xc_seq ?_
  refine xc_region ?_
  refine xl_pure rfl rfl rfl (pv_move (v := .pointer _) rfl rfl) ?_
  refine xl_heavy rfl rfl rfl (hv_call (g := 31) rfl rfl (c31n) rfl) ?_
  rintro v1_1 H1_1 ⟨rfl, rfl⟩
  refine xl_pure rfl rfl rfl (pv_build_s (cs := [.slice _ _ _]) rfl rfl rfl) ?_
  refine xl_heavy rfl rfl rfl (hv_box rfl rfl) ?_
  rintro v1_3 H1_3 ⟨b1_3, rfl, hN1_3⟩
  have gb1_3 := hX.fresh hN1_3
  have hX := hX.trans hN1_3.ext
  have m1_3 := hN1_3.blk
  refine xl_pure rfl rfl rfl (pv_assign (v := .pointer _) rfl rfl) ?_
  refine xl_nil ?_
  refine xthen_normal ?_
  refine xc_ret ?_
  refine fin_ret (res1 (v := .pointer _) rfl rfl) ?_
  exact ⟨_, rfl, hN1_3⟩
end Go.XG
