/-
  Walks of the seat's functions over the logic XG: each function, what it computes. Printed by a program out of wip/walks.py.
-/
import Derived.Test.YtoabjfmegnjicaaI
import Derived.Test.YtoabjfmegnjicaaTo
import Derived.Test.YtoabjfmegnjicaaTa
namespace Go.XG
open Go.Proofs
set_option maxRecDepth 4000
set_option maxHeartbeats 4000000
theorem c28 {O : Outer} {H : Heap} {bt t c : Nat} {rest : List Value} {a : Option Addr} {l : List (List Int)} (mt : Blk H bt (.slice a l.length c :: rest) t) (hR : RowsT H 88 5 a l) (hne : Nat.beq t 88 = false) (hs : Srt l) (hc : l.length ≤ c) (hna : a = none → c = 0) (hl : l.length < 1099511627776) (k : List Int) (hk : k.length = 4) :
    FnC Try.prog 28 #[.pointer (some ⟨bt, 0, none⟩), .agg (ints k).toArray] O H (fun v H' => v = .tuple #[.int .i64 (if hasK l k then (gr l (bel l k)).getD 4 0 else 0), .bool (hasK l k)] ∧ Ext H H') := by
  refine fn_enter (A := [.pointer (some ⟨bt, 0, none⟩), .agg (ints k).toArray]) Try.func28 rfl rfl ?_
  have hX := Ext.refl H
  refine xc_seq ?_
  refine xc_region ?_
  refine xl_heavy rfl rfl rfl (hv_box rfl rfl) ?_
  rintro v0_0 H0_0 ⟨b0_0, rfl, hN0_0⟩
  have gb0_0 := hX.fresh hN0_0
  have nmt_0_0 := mt.apart hN0_0
  have mt := mt.ext hN0_0.ext
  have hR := hR.ext hN0_0.ext
  have hX := hX.trans hN0_0.ext
  have m0_0 := hN0_0.blk
  refine xl_pure rfl rfl rfl (pv_assign (v := .int _ _) rfl rfl) ?_
  refine xl_pure rfl rfl rfl (pv_assign (v := .bool _) rfl rfl) ?_
  refine xl_nil ?_
  refine xthen_normal ?_
  refine xc_seq ?_
  refine xc_region ?_
  refine xl_pure rfl rfl rfl (pv_move (v := .pointer _) rfl rfl) ?_
  refine xl_light rfl rfl rfl (lv_load (v := .agg _) rfl rfl (ld_ints m0_0 hk)) ?_
  refine xl_heavy rfl rfl rfl (hv_call (g := 46) rfl rfl (c46 mt hR hne hs hc hna hl k hk) rfl) ?_
  rintro v1_2 H1_2 ⟨rfl, hE1_2⟩
  have mt := mt.ext hE1_2
  have hR := hR.ext hE1_2
  have m0_0 := m0_0.ext hE1_2
  have hX := hX.trans hE1_2
  cases hh1_2 : hasK l k
  · skip
    refine xl_pure rfl rfl rfl (pv_move (v := .tuple _) rfl rfl) ?_
    refine xl_pure rfl rfl rfl (pv_extract (v := .int _ _) rfl rfl rfl) ?_
    refine xl_pure rfl rfl rfl (pv_extract (v := .bool _) rfl rfl rfl) ?_
    refine xl_pure rfl rfl rfl (pv_assign (v := .int _ _) rfl rfl) ?_
    refine xl_pure rfl rfl rfl (pv_assign (v := .bool _) rfl rfl) ?_
    refine xl_nil ?_
    refine xthen_normal ?_
    refine xc_seq ?_
    refine xc_seq ?_
    refine xc_region ?_
    refine xl_pure rfl rfl rfl (pv_move (v := .bool _) rfl rfl) ?_
    refine xl_pure rfl rfl rfl (pv_not rfl rfl) ?_
    refine xl_nil ?_
    refine xthen_normal ?_
    refine xc_cond_t rfl ?_
    refine xc_seq ?_
    refine xc_region ?_
    refine xl_pure rfl rfl rfl (pv_assign (v := .int _ _) rfl rfl) ?_
    refine xl_nil ?_
    refine xthen_normal ?_
    refine xc_seq ?_
    refine xc_region ?_
    refine xl_pure rfl rfl rfl (pv_move (v := .int _ _) rfl rfl) ?_
    refine xl_pure rfl rfl rfl (pv_assign (v := .int _ _) rfl rfl) ?_
    refine xl_pure rfl rfl rfl (pv_assign (v := .bool _) rfl rfl) ?_
    refine xl_nil ?_
    refine xthen_normal ?_
    refine xc_ret ?_
    refine xthen_ret ?_
    refine fin_ret (res2 (v := .int _ _) (x := .bool _) rfl rfl rfl) ?_
    exact ⟨rfl, hX⟩
  · skip
    refine xl_pure rfl rfl rfl (pv_move (v := .tuple _) rfl rfl) ?_
    refine xl_pure rfl rfl rfl (pv_extract (v := .int _ _) rfl rfl rfl) ?_
    refine xl_pure rfl rfl rfl (pv_extract (v := .bool _) rfl rfl rfl) ?_
    refine xl_pure rfl rfl rfl (pv_assign (v := .int _ _) rfl rfl) ?_
    refine xl_pure rfl rfl rfl (pv_assign (v := .bool _) rfl rfl) ?_
    refine xl_nil ?_
    refine xthen_normal ?_
    refine xc_seq ?_
    refine xc_seq ?_
    refine xc_region ?_
    refine xl_pure rfl rfl rfl (pv_move (v := .bool _) rfl rfl) ?_
    refine xl_pure rfl rfl rfl (pv_not rfl rfl) ?_
    refine xl_nil ?_
    refine xthen_normal ?_
    refine xc_cond_f rfl ?_
    refine xc_skip ?_
    refine xthen_normal ?_
    refine xc_seq ?_
    have hlt := has_lt hs hR.wide (by decide) hk hh1_2
    obtain ⟨ba, off, hae⟩ := hR.at
    refine xc_region ?_
    refine xl_pure rfl rfl rfl (pv_move (v := .pointer _) rfl rfl) ?_
    refine xl_pure rfl rfl rfl (pv_nilCheck_p rfl rfl) ?_
    refine xl_pure rfl rfl rfl (pv_fieldAddr rfl rfl) ?_
    refine xl_light rfl rfl rfl (lv_load (v := .slice _ _ _) rfl rfl (ld_blk mt rfl)) ?_
    refine xl_pure rfl rfl rfl (pv_move (v := .int _ _) rfl rfl) ?_
    refine xl_pure rfl rfl rfl (pv_indexAddr_l rfl (sl_eq (hae (by omega)).1) rfl (by omega)) ?_
    refine xl_pure rfl rfl rfl (pv_fieldAddr rfl rfl) ?_
    refine xl_light rfl rfl rfl (lv_load (v := .int _ _) rfl rfl (by exact ld_num (j := 4) (hae (by omega)).2 hR.wide (by omega) (by decide))) ?_
    refine xl_pure rfl rfl rfl (pv_assign (v := .int _ _) rfl rfl) ?_
    refine xl_pure rfl rfl rfl (pv_assign (v := .bool _) rfl rfl) ?_
    refine xl_nil ?_
    refine xthen_normal ?_
    refine xc_ret ?_
    refine fin_ret (res2 (v := .int _ _) (x := .bool _) rfl rfl rfl) ?_
    exact ⟨rfl, hX⟩

theorem c28n {O : Outer} {H : Heap}  (k : List Int) (hk : k.length = 4) :
    FnC Try.prog 28 #[.pointer none, .agg (ints k).toArray] O H (fun v H' => v = .tuple #[.int .i64 0, .bool false] ∧ Ext H H') := by
  refine fn_enter (A := [.pointer none, .agg (ints k).toArray]) Try.func28 rfl rfl ?_
  have hX := Ext.refl H
  refine xc_seq ?_
  refine xc_region ?_
  refine xl_heavy rfl rfl rfl (hv_box rfl rfl) ?_
  rintro v0_0 H0_0 ⟨b0_0, rfl, hN0_0⟩
  have gb0_0 := hX.fresh hN0_0
  have hX := hX.trans hN0_0.ext
  have m0_0 := hN0_0.blk
  refine xl_pure rfl rfl rfl (pv_assign (v := .int _ _) rfl rfl) ?_
  refine xl_pure rfl rfl rfl (pv_assign (v := .bool _) rfl rfl) ?_
  refine xl_nil ?_
  refine xthen_normal ?_
  refine xc_seq ?_
  refine xc_region ?_
  refine xl_pure rfl rfl rfl (pv_move (v := .pointer _) rfl rfl) ?_
  refine xl_light rfl rfl rfl (lv_load (v := .agg _) rfl rfl (ld_ints m0_0 hk)) ?_
  refine xl_heavy rfl rfl rfl (hv_call (g := 46) rfl rfl (c46n k hk) rfl) ?_
  rintro v1_2 H1_2 ⟨rfl, hE1_2⟩
  have m0_0 := m0_0.ext hE1_2
  have hX := hX.trans hE1_2
  refine xl_pure rfl rfl rfl (pv_move (v := .tuple _) rfl rfl) ?_
  refine xl_pure rfl rfl rfl (pv_extract (v := .int _ _) rfl rfl rfl) ?_
  refine xl_pure rfl rfl rfl (pv_extract (v := .bool _) rfl rfl rfl) ?_
  refine xl_pure rfl rfl rfl (pv_assign (v := .int _ _) rfl rfl) ?_
  refine xl_pure rfl rfl rfl (pv_assign (v := .bool _) rfl rfl) ?_
  refine xl_nil ?_
  refine xthen_normal ?_
  refine xc_seq ?_
  refine xc_seq ?_
  refine xc_region ?_
  refine xl_pure rfl rfl rfl (pv_move (v := .bool _) rfl rfl) ?_
  refine xl_pure rfl rfl rfl (pv_not rfl rfl) ?_
  refine xl_nil ?_
  refine xthen_normal ?_
  refine xc_cond_t rfl ?_
  refine xc_seq ?_
  refine xc_region ?_
  refine xl_pure rfl rfl rfl (pv_assign (v := .int _ _) rfl rfl) ?_
  refine xl_nil ?_
  refine xthen_normal ?_
  refine xc_seq ?_
  refine xc_region ?_
  refine xl_pure rfl rfl rfl (pv_move (v := .int _ _) rfl rfl) ?_
  refine xl_pure rfl rfl rfl (pv_assign (v := .int _ _) rfl rfl) ?_
  refine xl_pure rfl rfl rfl (pv_assign (v := .bool _) rfl rfl) ?_
  refine xl_nil ?_
  refine xthen_normal ?_
  refine xc_ret ?_
  refine xthen_ret ?_
  refine fin_ret (res2 (v := .int _ _) (x := .bool _) rfl rfl rfl) ?_
  exact ⟨rfl, hX⟩

theorem c35 {O : Outer} {H : Heap} {bt t c : Nat} {rest : List Value} {a : Option Addr} {l : List (List Int)} (mt : Blk H bt (.slice a l.length c :: rest) t) (hR : RowsT H 88 5 a l) (hne : Nat.beq t 88 = false) (hs : Srt l) (hc : l.length ≤ c) (hna : a = none → c = 0) (hl : l.length < 1099511627776) (k : List Int) (hk : k.length = 4) (x : Int) :
    FnC Try.prog 35 #[.pointer (some ⟨bt, 0, none⟩), .agg (ints k).toArray, .int .i64 x] O H (fun v H' => ∃ a' c', v = .bool (!hasK l k) ∧ Upd H H' bt (.slice a' (putR l (k ++ [x])).length c' :: rest) t ∧ RowsT H' 88 5 a' (putR l (k ++ [x])) ∧ (putR l (k ++ [x])).length ≤ c' ∧ (a' = none → c' = 0)) := by
  refine fn_enter (A := [.pointer (some ⟨bt, 0, none⟩), .agg (ints k).toArray, .int .i64 x]) Try.func35 rfl rfl ?_
  have hX := But.refl bt H
  refine xc_seq ?_
  refine xc_region ?_
  refine xl_heavy rfl rfl rfl (hv_box rfl rfl) ?_
  rintro v0_0 H0_0 ⟨b0_0, rfl, hN0_0⟩
  have gb0_0 := hX.fresh hN0_0
  have nmt_0_0 := mt.apart hN0_0
  have mt := mt.ext hN0_0.ext
  have hR := hR.ext hN0_0.ext
  have hX := hX.transE hN0_0.ext
  have m0_0 := hN0_0.blk
  refine xl_pure rfl rfl rfl (pv_assign (v := .bool _) rfl rfl) ?_
  refine xl_nil ?_
  refine xthen_normal ?_
  refine xc_seq ?_
  refine xc_seq ?_
  refine xc_region ?_
  refine xl_pure rfl rfl rfl (pv_move (v := .pointer _) rfl rfl) ?_
  refine xl_pure rfl rfl rfl (pv_eql_pn rfl rfl rfl) ?_
  refine xl_nil ?_
  refine xthen_normal ?_
  refine xc_cond_f rfl ?_
  refine xc_skip ?_
  refine xthen_normal ?_
  refine xc_seq ?_
  refine xc_region ?_
  refine xl_pure rfl rfl rfl (pv_move (v := .pointer _) rfl rfl) ?_
  refine xl_light rfl rfl rfl (lv_load (v := .agg _) rfl rfl (ld_ints m0_0 hk)) ?_
  refine xl_heavy rfl rfl rfl (hv_call (g := 46) rfl rfl (c46 mt hR hne hs hc hna hl k hk) rfl) ?_
  rintro v3_2 H3_2 ⟨rfl, hE3_2⟩
  have mt := mt.ext hE3_2
  have hR := hR.ext hE3_2
  have m0_0 := m0_0.ext hE3_2
  have hX := hX.transE hE3_2
  cases hh3_2 : hasK l k
  · skip
    refine xl_pure rfl rfl rfl (pv_move (v := .tuple _) rfl rfl) ?_
    refine xl_pure rfl rfl rfl (pv_extract (v := .int _ _) rfl rfl rfl) ?_
    refine xl_pure rfl rfl rfl (pv_extract (v := .bool _) rfl rfl rfl) ?_
    refine xl_pure rfl rfl rfl (pv_assign (v := .int _ _) rfl rfl) ?_
    refine xl_pure rfl rfl rfl (pv_assign (v := .bool _) rfl rfl) ?_
    refine xl_nil ?_
    refine xthen_normal ?_
    refine xc_seq ?_
    have hbl := bel_le l k
    refine xc_region ?_
    refine xl_pure rfl rfl rfl (pv_move (v := .pointer _) rfl rfl) ?_
    refine xl_pure rfl rfl rfl (pv_nilCheck_p rfl rfl) ?_
    refine xl_pure rfl rfl rfl (pv_fieldAddr rfl rfl) ?_
    refine xl_light rfl rfl rfl (lv_load (v := .slice _ _ _) rfl rfl (ld_blk mt rfl)) ?_
    refine xl_pure rfl rfl rfl (pv_move (v := .int _ _) rfl rfl) ?_
    refine xl_pure rfl rfl rfl (pv_slice_l rfl rfl (.none _) (.none _) (.some rfl (by omega)) (by omega) (by simp)) ?_
    refine xl_pure rfl rfl rfl (pv_assign (v := .slice _ _ _) rfl rfl) ?_
    refine xl_nil ?_
    refine xthen_normal ?_
    refine xc_seq ?_
    refine xc_seq ?_
    refine xc_region ?_
    refine xl_pure rfl rfl rfl (pv_move (v := .bool _) rfl rfl) ?_
    refine xl_nil ?_
    refine xthen_normal ?_
    refine xc_cond_f rfl ?_
    refine xc_skip ?_
    refine xthen_normal ?_
    refine xc_seq ?_
    have hRc := hR
    have hlw := hR.wide
    refine xp_start rfl (by repeat (first | with_reducible exact np_fin | with_reducible exact np_ret | with_reducible refine np_then ?_ | with_reducible refine np_block ?_)) (by kernel_rfl) ?_
    refine xp_pure (i := 0) rfl (by kernel_rfl) (by kernel_rfl) rfl rfl rfl (pv_move (v := .pointer _) rfl rfl) ?_
    refine xp_pure (i := 1) rfl (by kernel_rfl) (by kernel_rfl) rfl rfl rfl (pv_move (v := .pointer _) rfl rfl) ?_
    refine xp_pure (i := 2) rfl (by kernel_rfl) (by kernel_rfl) rfl rfl rfl (pv_nilCheck_p rfl rfl) ?_
    refine xp_pure (i := 3) rfl (by kernel_rfl) (by kernel_rfl) rfl rfl rfl (pv_fieldAddr rfl rfl) ?_
    refine xp_light (i := 4) rfl (by kernel_rfl) (by kernel_rfl) rfl rfl rfl (lv_load (v := .slice _ _ _) rfl rfl (by exact ld_blk mt rfl)) ?_
    refine xp_pure (i := 5) rfl (by kernel_rfl) (by kernel_rfl) rfl rfl rfl (pv_move (v := .int _ _) rfl rfl) ?_
    refine xp_pure (i := 6) rfl (by kernel_rfl) (by kernel_rfl) rfl rfl rfl (pv_move (v := .int _ _) rfl rfl) ?_
    refine xp_pure (i := 7) rfl (by kernel_rfl) (by kernel_rfl) rfl rfl rfl (pv_slice_l rfl rfl (.some rfl (by omega)) (.some rfl (by omega)) (.none _) (by omega) (by simp)) ?_
    refine xp_light (i := 8) rfl (by kernel_rfl) (by kernel_rfl) rfl rfl rfl (lv_load (v := .agg _) rfl rfl (by exact ld_ints m0_0 hk)) ?_
    refine xp_pure (i := 9) rfl (by kernel_rfl) (by kernel_rfl) rfl rfl rfl (pv_move (v := .int _ _) rfl rfl) ?_
    refine xp_pure (i := 10) rfl (by kernel_rfl) (by kernel_rfl) rfl rfl rfl (pv_build_pair (xs := ints k) (ys := [.int .i64 x]) rfl rfl rfl rfl rfl (by rw [ints_ten hk]; rfl) (by rw [ints_ten hk]; rfl) (by rw [ints_ten hk]; rfl)) ?_
    refine xp_pure (i := 13) rfl (by kernel_rfl) (by kernel_rfl) rfl rfl rfl (pv_move (v := .slice _ _ _) rfl rfl) ?_
    refine xp_heavy (i := 11) (by kernel_rfl) ?_
    refine xph_val rfl rfl rfl rfl (hv_buildSlice (cs := (ints k ++ [.int .i64 x])) rfl rfl (parts1 (by simp [ints, hk])) rfl rfl) (pk (by kernel_rfl) (pk (by kernel_rfl) pn)) ?_
    rintro v7_11 H7_11 ⟨b7_11, rfl, hN7_11⟩
    have gb7_11 := hX.fresh hN7_11
    have nmt_7_11 := mt.apart hN7_11
    have nm0_0_7_11 := m0_0.apart hN7_11
    have mt := mt.ext hN7_11.ext
    have hR := hR.ext hN7_11.ext
    have m0_0 := m0_0.ext hN7_11.ext
    have hX := hX.transE hN7_11.ext
    have m7_11 := hN7_11.blk
    have hz7_11 := hX.size
    have hRc := hRc.ext hN7_11.ext
    refine ⟨(okc (lv_load (v := .agg _) rfl rfl (by exact ld_ints m0_0 hk)) (okc (lv_load (v := .slice _ _ _) rfl rfl (by exact ld_blk mt rfl)) okn)), ?_⟩
    refine xp_heavy (i := 12) (by kernel_rfl) ?_
    refine xph_val rfl rfl rfl rfl (hv_append_full (size := 5) (l := l.take (bel l k)) (l' := [(k ++ [x])]) rfl rfl (by simp; try omega) (by rw [cutA_0]; exact hRc.take (by omega)) rfl rfl (rowsT1 m7_11 (by simp [ints]) (by simp [hk])) (by decide) rfl (by decide) (by omega) (by omega) (fun h => by rw [cutA_0] at h; have := hna h; omega)) (pk (by kernel_rfl) (pk (by kernel_rfl) pn)) ?_
    rintro v7_12 H7_12 ⟨hO7_12, hE7_12⟩
    have mt := mt.ext hE7_12
    have hR := hR.ext hE7_12
    have m0_0 := m0_0.ext hE7_12
    have m7_11 := m7_11.ext hE7_12
    have hX := hX.transE hE7_12
    have hRc := hRc.ext hE7_12
    obtain ⟨a7_12, c7_12, rfl⟩ := hO7_12.val
    refine ⟨(okc (lv_load (v := .agg _) rfl rfl (by exact ld_ints m0_0 hk)) (okc (lv_load (v := .slice _ _ _) rfl rfl (by exact ld_blk mt rfl)) okn)), ?_⟩
    refine xp_heavy (i := 14) (by kernel_rfl) ?_
    refine xph_val rfl rfl rfl rfl (hv_append_rows (size := 5) (l := l.take (bel l k) ++ [(k ++ [x])]) (l' := l.drop (bel l k)) rfl rfl hO7_12 rfl (by simp; try omega) (by exact (hRc.cut (by omega) hc)) rfl (by decide) (by omega) (by omega) hE7_12.size) (pk (by kernel_rfl) (pk (by kernel_rfl) pn)) ?_
    rintro v7_14 H7_14 ⟨hO7_14, hG7_14⟩
    have mt := mt.offT hO7_12 hG7_14 hne
    have m0_0 := m0_0.offT hO7_12 hG7_14 rfl
    have hX := hO7_12.grownB hX hG7_14 hz7_11
    obtain ⟨a7_14, c7_14, rfl⟩ := hO7_14.val
    have hcap := own_cap hO7_14
    have eL : (putR l (k ++ [x])).length = bel l k - 0 + 1 + (l.length - bel l k) := by rw [put_new hk hh3_2]; simp; omega
    replace hO7_14 : Own H7_14 H7_11.size 88 5 (.slice a7_14 (putR l (k ++ [x])).length c7_14) (putR l (k ++ [x])).length (fr (putR l (k ++ [x]))) := by rw [eL, put_new hk hh3_2]; exact hO7_14
    have hRn := own_rowsT (wide_put hRc.wide (by simp [hk])) hO7_14
    have hcn : (putR l (k ++ [x])).length ≤ c7_14 := by rcases own_blk hO7_14 with ⟨h1, h2⟩ | ⟨_, _, _, _, _, h2⟩; omega; exact h2
    refine ⟨(okc (lv_load (v := .agg _) rfl rfl (by exact ld_ints m0_0 hk)) (okc (lv_load (v := .slice _ _ _) rfl rfl (by exact ld_blk mt rfl)) okn)), ?_⟩
    refine xp_pure (i := 15) rfl (by kernel_rfl) (by kernel_rfl) rfl rfl rfl (pv_nilCheck_p rfl rfl) ?_
    refine xp_pure (i := 16) rfl (by kernel_rfl) (by kernel_rfl) rfl rfl rfl (pv_fieldAddr rfl rfl) ?_
    refine xp_heavy (i := 17) (by kernel_rfl) ?_
    refine xph_store rfl rfl rfl (hv_store (vs := [.slice _ _ _]) rfl rfl rfl (mt) rfl (Nat.le_of_ble_eq_true rfl) rfl) (pd (by kernel_rfl) (pd (by kernel_rfl) pn)) ?_
    rintro v7_17 H7_17 ⟨hU7_17, hZ7_17⟩
    have m0_0 := m0_0.off hU7_17.but (by first | exact nmt_0_0.symm | exact ⟨m0_0.ne mt rfl⟩ | exact ⟨m0_0.ne mt (by assumption)⟩ | exact ⟨Ne.symm (mt.ne m0_0 (by assumption))⟩)
    have hRn := hRn.offT mt hU7_17.but (by first | rfl | assumption)
    have hX := hX.trans hU7_17.but
    have mt := hU7_17.blk
    replace mt : Blk H7_17 bt (.slice a7_14 (putR l (k ++ [x])).length c7_14 :: rest) t := by rw [eL]; exact mt
    refine ⟨okn, ?_⟩
    refine xp_done (by kernel_rfl) ?_
    refine xthen_normal ?_
    refine xc_seq ?_
    refine xc_region ?_
    refine xl_pure rfl rfl rfl (pv_move (v := .bool _) rfl rfl) ?_
    refine xl_pure rfl rfl rfl (pv_not rfl rfl) ?_
    refine xl_pure rfl rfl rfl (pv_assign (v := .bool _) rfl rfl) ?_
    refine xl_nil ?_
    refine xthen_normal ?_
    refine xc_ret ?_
    refine fin_ret (res1 (v := .bool _) rfl rfl) ?_
    exact ⟨_, _, by first | (rw [hh3_2]; done) | rfl, ⟨hX, mt⟩, hRn, hcn, hcap⟩
  · skip
    refine xl_pure rfl rfl rfl (pv_move (v := .tuple _) rfl rfl) ?_
    refine xl_pure rfl rfl rfl (pv_extract (v := .int _ _) rfl rfl rfl) ?_
    refine xl_pure rfl rfl rfl (pv_extract (v := .bool _) rfl rfl rfl) ?_
    refine xl_pure rfl rfl rfl (pv_assign (v := .int _ _) rfl rfl) ?_
    refine xl_pure rfl rfl rfl (pv_assign (v := .bool _) rfl rfl) ?_
    refine xl_nil ?_
    refine xthen_normal ?_
    refine xc_seq ?_
    have hbl := bel_le l k
    refine xc_region ?_
    refine xl_pure rfl rfl rfl (pv_move (v := .pointer _) rfl rfl) ?_
    refine xl_pure rfl rfl rfl (pv_nilCheck_p rfl rfl) ?_
    refine xl_pure rfl rfl rfl (pv_fieldAddr rfl rfl) ?_
    refine xl_light rfl rfl rfl (lv_load (v := .slice _ _ _) rfl rfl (ld_blk mt rfl)) ?_
    refine xl_pure rfl rfl rfl (pv_move (v := .int _ _) rfl rfl) ?_
    refine xl_pure rfl rfl rfl (pv_slice_l rfl rfl (.none _) (.none _) (.some rfl (by omega)) (by omega) (by simp)) ?_
    refine xl_pure rfl rfl rfl (pv_assign (v := .slice _ _ _) rfl rfl) ?_
    refine xl_nil ?_
    refine xthen_normal ?_
    refine xc_seq ?_
    refine xc_seq ?_
    refine xc_region ?_
    refine xl_pure rfl rfl rfl (pv_move (v := .bool _) rfl rfl) ?_
    refine xl_nil ?_
    refine xthen_normal ?_
    refine xc_cond_t rfl ?_
    have hlt := has_lt hs hR.wide (by decide) hk hh3_2
    refine xc_region ?_
    refine xl_pure rfl rfl rfl (pv_move (v := .slice _ _ _) rfl rfl) ?_
    refine xl_pure rfl rfl rfl (pv_slice_l rfl rfl (.none _) (.none _) (.some rfl (by omega)) (by omega) (by simp)) ?_
    refine xl_pure rfl rfl rfl (pv_assign (v := .slice _ _ _) rfl rfl) ?_
    refine xl_nil ?_
    refine xthen_normal ?_
    refine xc_seq ?_
    have hRc := hR
    have hlw := hR.wide
    refine xp_start rfl (by repeat (first | with_reducible exact np_fin | with_reducible exact np_ret | with_reducible refine np_then ?_ | with_reducible refine np_block ?_)) (by kernel_rfl) ?_
    refine xp_pure (i := 0) rfl (by kernel_rfl) (by kernel_rfl) rfl rfl rfl (pv_move (v := .pointer _) rfl rfl) ?_
    refine xp_pure (i := 1) rfl (by kernel_rfl) (by kernel_rfl) rfl rfl rfl (pv_move (v := .pointer _) rfl rfl) ?_
    refine xp_pure (i := 2) rfl (by kernel_rfl) (by kernel_rfl) rfl rfl rfl (pv_nilCheck_p rfl rfl) ?_
    refine xp_pure (i := 3) rfl (by kernel_rfl) (by kernel_rfl) rfl rfl rfl (pv_fieldAddr rfl rfl) ?_
    refine xp_light (i := 4) rfl (by kernel_rfl) (by kernel_rfl) rfl rfl rfl (lv_load (v := .slice _ _ _) rfl rfl (by exact ld_blk mt rfl)) ?_
    refine xp_pure (i := 5) rfl (by kernel_rfl) (by kernel_rfl) rfl rfl rfl (pv_move (v := .int _ _) rfl rfl) ?_
    refine xp_pure (i := 6) rfl (by kernel_rfl) (by kernel_rfl) rfl rfl rfl (pv_move (v := .int _ _) rfl rfl) ?_
    refine xp_pure (i := 7) rfl (by kernel_rfl) (by kernel_rfl) rfl rfl rfl (pv_slice_l rfl rfl (.some rfl (by omega)) (.some rfl (by omega)) (.none _) (by omega) (by simp)) ?_
    refine xp_light (i := 8) rfl (by kernel_rfl) (by kernel_rfl) rfl rfl rfl (lv_load (v := .agg _) rfl rfl (by exact ld_ints m0_0 hk)) ?_
    refine xp_pure (i := 9) rfl (by kernel_rfl) (by kernel_rfl) rfl rfl rfl (pv_move (v := .int _ _) rfl rfl) ?_
    refine xp_pure (i := 10) rfl (by kernel_rfl) (by kernel_rfl) rfl rfl rfl (pv_build_pair (xs := ints k) (ys := [.int .i64 x]) rfl rfl rfl rfl rfl (by rw [ints_ten hk]; rfl) (by rw [ints_ten hk]; rfl) (by rw [ints_ten hk]; rfl)) ?_
    refine xp_pure (i := 13) rfl (by kernel_rfl) (by kernel_rfl) rfl rfl rfl (pv_move (v := .slice _ _ _) rfl rfl) ?_
    refine xp_heavy (i := 11) (by kernel_rfl) ?_
    refine xph_val rfl rfl rfl rfl (hv_buildSlice (cs := (ints k ++ [.int .i64 x])) rfl rfl (parts1 (by simp [ints, hk])) rfl rfl) (pk (by kernel_rfl) (pk (by kernel_rfl) pn)) ?_
    rintro v7_11 H7_11 ⟨b7_11, rfl, hN7_11⟩
    have gb7_11 := hX.fresh hN7_11
    have nmt_7_11 := mt.apart hN7_11
    have nm0_0_7_11 := m0_0.apart hN7_11
    have mt := mt.ext hN7_11.ext
    have hR := hR.ext hN7_11.ext
    have m0_0 := m0_0.ext hN7_11.ext
    have hX := hX.transE hN7_11.ext
    have m7_11 := hN7_11.blk
    have hz7_11 := hX.size
    have hRc := hRc.ext hN7_11.ext
    refine ⟨(okc (lv_load (v := .agg _) rfl rfl (by exact ld_ints m0_0 hk)) (okc (lv_load (v := .slice _ _ _) rfl rfl (by exact ld_blk mt rfl)) okn)), ?_⟩
    refine xp_heavy (i := 12) (by kernel_rfl) ?_
    refine xph_val rfl rfl rfl rfl (hv_append_full (size := 5) (l := l.take (bel l k)) (l' := [(k ++ [x])]) rfl rfl (by simp; try omega) (by rw [cutA_0]; exact hRc.take (by omega)) rfl rfl (rowsT1 m7_11 (by simp [ints]) (by simp [hk])) (by decide) rfl (by decide) (by omega) (by omega) (fun h => by rw [cutA_0] at h; have := hna h; omega)) (pk (by kernel_rfl) (pk (by kernel_rfl) pn)) ?_
    rintro v7_12 H7_12 ⟨hO7_12, hE7_12⟩
    have mt := mt.ext hE7_12
    have hR := hR.ext hE7_12
    have m0_0 := m0_0.ext hE7_12
    have m7_11 := m7_11.ext hE7_12
    have hX := hX.transE hE7_12
    have hRc := hRc.ext hE7_12
    obtain ⟨a7_12, c7_12, rfl⟩ := hO7_12.val
    refine ⟨(okc (lv_load (v := .agg _) rfl rfl (by exact ld_ints m0_0 hk)) (okc (lv_load (v := .slice _ _ _) rfl rfl (by exact ld_blk mt rfl)) okn)), ?_⟩
    refine xp_heavy (i := 14) (by kernel_rfl) ?_
    refine xph_val rfl rfl rfl rfl (hv_append_rows (size := 5) (l := l.take (bel l k) ++ [(k ++ [x])]) (l' := (l.drop (bel l k)).drop 1) rfl rfl hO7_12 rfl (by simp; try omega) (by exact ((hRc.cut (by omega) hc).cut (by simp; omega) (by simp; omega))) rfl (by decide) (by omega) (by omega) hE7_12.size) (pk (by kernel_rfl) (pk (by kernel_rfl) pn)) ?_
    rintro v7_14 H7_14 ⟨hO7_14, hG7_14⟩
    have mt := mt.offT hO7_12 hG7_14 hne
    have m0_0 := m0_0.offT hO7_12 hG7_14 rfl
    have hX := hO7_12.grownB hX hG7_14 hz7_11
    obtain ⟨a7_14, c7_14, rfl⟩ := hO7_14.val
    have hcap := own_cap hO7_14
    have eL : (putR l (k ++ [x])).length = bel l k - 0 + 1 + (l.length - bel l k - 1) := by rw [put_has hk hh3_2]; simp; omega
    replace hO7_14 : Own H7_14 H7_11.size 88 5 (.slice a7_14 (putR l (k ++ [x])).length c7_14) (putR l (k ++ [x])).length (fr (putR l (k ++ [x]))) := by rw [eL, put_has hk hh3_2]; exact hO7_14
    have hRn := own_rowsT (wide_put hRc.wide (by simp [hk])) hO7_14
    have hcn : (putR l (k ++ [x])).length ≤ c7_14 := by rcases own_blk hO7_14 with ⟨h1, h2⟩ | ⟨_, _, _, _, _, h2⟩; omega; exact h2
    refine ⟨(okc (lv_load (v := .agg _) rfl rfl (by exact ld_ints m0_0 hk)) (okc (lv_load (v := .slice _ _ _) rfl rfl (by exact ld_blk mt rfl)) okn)), ?_⟩
    refine xp_pure (i := 15) rfl (by kernel_rfl) (by kernel_rfl) rfl rfl rfl (pv_nilCheck_p rfl rfl) ?_
    refine xp_pure (i := 16) rfl (by kernel_rfl) (by kernel_rfl) rfl rfl rfl (pv_fieldAddr rfl rfl) ?_
    refine xp_heavy (i := 17) (by kernel_rfl) ?_
    refine xph_store rfl rfl rfl (hv_store (vs := [.slice _ _ _]) rfl rfl rfl (mt) rfl (Nat.le_of_ble_eq_true rfl) rfl) (pd (by kernel_rfl) (pd (by kernel_rfl) pn)) ?_
    rintro v7_17 H7_17 ⟨hU7_17, hZ7_17⟩
    have m0_0 := m0_0.off hU7_17.but (by first | exact nmt_0_0.symm | exact ⟨m0_0.ne mt rfl⟩ | exact ⟨m0_0.ne mt (by assumption)⟩ | exact ⟨Ne.symm (mt.ne m0_0 (by assumption))⟩)
    have hRn := hRn.offT mt hU7_17.but (by first | rfl | assumption)
    have hX := hX.trans hU7_17.but
    have mt := hU7_17.blk
    replace mt : Blk H7_17 bt (.slice a7_14 (putR l (k ++ [x])).length c7_14 :: rest) t := by rw [eL]; exact mt
    refine ⟨okn, ?_⟩
    refine xp_done (by kernel_rfl) ?_
    refine xthen_normal ?_
    refine xc_seq ?_
    refine xc_region ?_
    refine xl_pure rfl rfl rfl (pv_move (v := .bool _) rfl rfl) ?_
    refine xl_pure rfl rfl rfl (pv_not rfl rfl) ?_
    refine xl_pure rfl rfl rfl (pv_assign (v := .bool _) rfl rfl) ?_
    refine xl_nil ?_
    refine xthen_normal ?_
    refine xc_ret ?_
    refine fin_ret (res1 (v := .bool _) rfl rfl) ?_
    exact ⟨_, _, by first | (rw [hh3_2]; done) | rfl, ⟨hX, mt⟩, hRn, hcn, hcap⟩

theorem c35n {O : Outer} {H : Heap}  (k : List Int) (hk : k.length = 4) (x : Int) :
    FnC Try.prog 35 #[.pointer none, .agg (ints k).toArray, .int .i64 x] O H (fun v H' => v = .bool false ∧ Ext H H') := by
  refine fn_enter (A := [.pointer none, .agg (ints k).toArray, .int .i64 x]) Try.func35 rfl rfl ?_
  have hX := Ext.refl H
  refine xc_seq ?_
  refine xc_region ?_
  refine xl_heavy rfl rfl rfl (hv_box rfl rfl) ?_
  rintro v0_0 H0_0 ⟨b0_0, rfl, hN0_0⟩
  have gb0_0 := hX.fresh hN0_0
  have hX := hX.trans hN0_0.ext
  have m0_0 := hN0_0.blk
  refine xl_pure rfl rfl rfl (pv_assign (v := .bool _) rfl rfl) ?_
  refine xl_nil ?_
  refine xthen_normal ?_
  refine xc_seq ?_
  refine xc_seq ?_
  refine xc_region ?_
  refine xl_pure rfl rfl rfl (pv_move (v := .pointer _) rfl rfl) ?_
  refine xl_pure rfl rfl rfl (pv_eql_nn rfl rfl rfl) ?_
  refine xl_nil ?_
  refine xthen_normal ?_
  refine xc_cond_t rfl ?_
  refine xc_seq ?_
  refine xc_region ?_
  refine xl_pure rfl rfl rfl (pv_assign (v := .bool _) rfl rfl) ?_
  refine xl_nil ?_
  refine xthen_normal ?_
  refine xc_ret ?_
  refine xthen_ret ?_
  refine fin_ret (res1 (v := .bool _) rfl rfl) ?_
  exact ⟨rfl, hX⟩
end Go.XG
