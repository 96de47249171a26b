/-
  Walks of the seat's functions over the logic XG: each function, what it computes. Printed by a program out of wip/walks.py.
-/
import Derived.Test.YtjlhjjjhblcokaaI
import Derived.Test.YtjlhjjjhblcokaaXs
import Derived.Test.YtjlhjjjhblcokaaTo
import Derived.Test.YtjlhjjjhblcokaaTa
namespace Go.XG
open Go.Proofs
set_option maxRecDepth 20000
set_option maxHeartbeats 4000000
theorem c95 {O : Outer} {H : Heap} {bt t c : Nat} {rest : List Value} {a : Option Addr} {l : List (List Int)} (mt : Blk H bt (.slice a l.length c :: rest) t) (hR : RowsT H 138 5 a l) (hne : Nat.beq t 138 = false) (hs : Srt l) (hc : l.length ≤ c) (hna : a = none → c = 0) (hl : l.length < 1099511627776) (k : List Int) (hk : k.length = 4) :
    FnC Try.prog 95 #[.pointer (some ⟨bt, 0, none⟩), .agg (ints k).toArray] O H (fun v H' => ∃ a' c', v = .bool (hasK l k) ∧ Upd H H' bt (.slice a' (delR l k).length c' :: rest) t ∧ RowsT H' 138 5 a' (delR l k) ∧ (delR l k).length ≤ c' ∧ (a' = none → c' = 0)) := by
  refine fn_enter (A := [.pointer (some ⟨bt, 0, none⟩), .agg (ints k).toArray]) Try.func95 rfl rfl ?_
  have hX := But.refl bt H
  refine xc_seq ?_
  refine xc_region ?_
  refine xl_heavy rfl rfl rfl (hv_box rfl rfl) ?_
  rintro v0_0 H0_0 ⟨b0_0, rfl, hN0_0⟩
  have gb0_0 := hX.fresh hN0_0
  have nmt_0_0 := mt.apart hN0_0
  have mt := mt.ext hN0_0.ext
  have hR := hR.ext hN0_0.ext
  have hX := hX.transE hN0_0.ext
  have m0_0 := hN0_0.blk
  refine xl_pure rfl rfl rfl (pv_assign (v := .bool _) rfl rfl) ?_
  refine xl_nil ?_
  refine xthen_normal ?_
  refine xc_seq ?_
  refine xc_region ?_
  refine xl_pure rfl rfl rfl (pv_move (v := .pointer _) rfl rfl) ?_
  refine xl_light rfl rfl rfl (lv_load (v := .agg _) rfl rfl (ld_ints m0_0 hk)) ?_
  refine xl_heavy rfl rfl rfl (hv_call (g := 79) rfl rfl (c79 mt hR hne hs hc hna hl k hk) rfl) ?_
  rintro v1_2 H1_2 ⟨rfl, hE1_2⟩
  have mt := mt.ext hE1_2
  have hR := hR.ext hE1_2
  have m0_0 := m0_0.ext hE1_2
  have hX := hX.transE hE1_2
  cases hh1_2 : hasK l k
  · skip
    refine xl_pure rfl rfl rfl (pv_move (v := .tuple _) rfl rfl) ?_
    refine xl_pure rfl rfl rfl (pv_extract (v := .int _ _) rfl rfl rfl) ?_
    refine xl_pure rfl rfl rfl (pv_extract (v := .bool _) rfl rfl rfl) ?_
    refine xl_pure rfl rfl rfl (pv_assign (v := .int _ _) rfl rfl) ?_
    refine xl_pure rfl rfl rfl (pv_assign (v := .bool _) rfl rfl) ?_
    refine xl_nil ?_
    refine xthen_normal ?_
    refine xc_seq ?_
    refine xc_seq ?_
    refine xc_region ?_
    refine xl_pure rfl rfl rfl (pv_move (v := .bool _) rfl rfl) ?_
    refine xl_nil ?_
    refine xthen_normal ?_
    refine xc_cond_f rfl ?_
    refine xc_skip ?_
    refine xthen_normal ?_
    refine xc_seq ?_
    refine xc_region ?_
    refine xl_pure rfl rfl rfl (pv_move (v := .bool _) rfl rfl) ?_
    refine xl_pure rfl rfl rfl (pv_assign (v := .bool _) rfl rfl) ?_
    refine xl_nil ?_
    refine xthen_normal ?_
    refine xc_ret ?_
    refine fin_ret (res1 (v := .bool _) rfl rfl) ?_
    first
      | exact ⟨_, _, rfl, ⟨hX, mt⟩, hRn, hcn, hcap3_15⟩
      | (rw [del_no hh1_2]; exact ⟨_, _, rfl, ⟨hX, mt⟩, hR, hc, hna⟩)
  · skip
    refine xl_pure rfl rfl rfl (pv_move (v := .tuple _) rfl rfl) ?_
    refine xl_pure rfl rfl rfl (pv_extract (v := .int _ _) rfl rfl rfl) ?_
    refine xl_pure rfl rfl rfl (pv_extract (v := .bool _) rfl rfl rfl) ?_
    refine xl_pure rfl rfl rfl (pv_assign (v := .int _ _) rfl rfl) ?_
    refine xl_pure rfl rfl rfl (pv_assign (v := .bool _) rfl rfl) ?_
    refine xl_nil ?_
    refine xthen_normal ?_
    refine xc_seq ?_
    refine xc_seq ?_
    refine xc_region ?_
    refine xl_pure rfl rfl rfl (pv_move (v := .bool _) rfl rfl) ?_
    refine xl_nil ?_
    refine xthen_normal ?_
    refine xc_cond_t rfl ?_
    have hlt := has_lt hs hR.wide (by decide) hk hh1_2
    refine xp_start rfl (by repeat (first | with_reducible exact np_fin | with_reducible exact np_ret | with_reducible refine np_then ?_ | with_reducible refine np_block ?_)) (by kernel_rfl) ?_
    refine xp_pure (i := 0) rfl (by kernel_rfl) (by kernel_rfl) rfl rfl rfl (pv_move (v := .pointer _) rfl rfl) ?_
    refine xp_pure (i := 1) rfl (by kernel_rfl) (by kernel_rfl) rfl rfl rfl (pv_move (v := .pointer _) rfl rfl) ?_
    refine xp_pure (i := 2) rfl (by kernel_rfl) (by kernel_rfl) rfl rfl rfl (pv_nilCheck_p rfl rfl) ?_
    refine xp_pure (i := 3) rfl (by kernel_rfl) (by kernel_rfl) rfl rfl rfl (pv_fieldAddr rfl rfl) ?_
    refine xp_light (i := 4) rfl (by kernel_rfl) (by kernel_rfl) rfl rfl rfl (lv_load (v := .slice _ _ _) rfl rfl (by exact ld_blk mt rfl)) ?_
    refine xp_pure (i := 5) rfl (by kernel_rfl) (by kernel_rfl) rfl rfl rfl (pv_move (v := .int _ _) rfl rfl) ?_
    refine xp_pure (i := 6) rfl (by kernel_rfl) (by kernel_rfl) rfl rfl rfl (pv_move (v := .int _ _) rfl rfl) ?_
    refine xp_pure (i := 7) rfl (by kernel_rfl) (by kernel_rfl) rfl rfl rfl (pv_slice_l rfl rfl (.some rfl (by omega)) (.some rfl (by omega)) (.none _) (by omega) (by simp)) ?_
    refine xp_pure (i := 8) rfl (by kernel_rfl) (by kernel_rfl) rfl rfl rfl (pv_move (v := .pointer _) rfl rfl) ?_
    refine xp_pure (i := 9) rfl (by kernel_rfl) (by kernel_rfl) rfl rfl rfl (pv_nilCheck_p rfl rfl) ?_
    refine xp_pure (i := 10) rfl (by kernel_rfl) (by kernel_rfl) rfl rfl rfl (pv_fieldAddr rfl rfl) ?_
    refine xp_light (i := 11) rfl (by kernel_rfl) (by kernel_rfl) rfl rfl rfl (lv_load (v := .slice _ _ _) rfl rfl (by exact ld_blk mt rfl)) ?_
    refine xp_pure (i := 12) rfl (by kernel_rfl) (by kernel_rfl) rfl rfl rfl (pv_move (v := .int _ _) rfl rfl) ?_
    refine xp_pure (i := 13) rfl (by kernel_rfl) (by kernel_rfl) rfl rfl rfl (pv_add rfl rfl rfl (fit_i64 (by omega))) ?_
    refine xp_pure (i := 14) rfl (by kernel_rfl) (by kernel_rfl) rfl rfl rfl (pv_slice_l rfl rfl (.none _) (.none _) (.some rfl (by omega)) (by omega) (by simp)) ?_
    refine xp_heavy (i := 15) (by kernel_rfl) ?_
    refine xph_val rfl rfl rfl rfl (hv_append_both (size := 5) (l := l.take (bel l k)) (l' := l.drop (bel l k + 1)) rfl rfl (by simp; try omega) (by rw [cutA_0]; exact hR.take (by omega)) rfl (by simp; try omega) (by exact hR.cut (by omega) hc) rfl (by decide) (by omega) (by omega) (fun h => by rw [cutA_0] at h; have := hna h; omega)) (pk (by kernel_rfl) (pk (by kernel_rfl) pn)) ?_
    rintro v3_15 H3_15 ⟨a3_15, c3_15, rfl, hle3_15, hcap3_15, hRn, hE3_15⟩
    have mt := mt.ext hE3_15
    have hR := hR.ext hE3_15
    have m0_0 := m0_0.ext hE3_15
    have hX := hX.transE hE3_15
    have eL : (delR l k).length = bel l k - 0 + (l.length - (bel l k + 1)) := by rw [del_has hh1_2]; simp; omega
    replace hRn : RowsT H3_15 138 5 a3_15 (delR l k) := by rw [del_has hh1_2]; exact hRn
    have hcn : (delR l k).length ≤ c3_15 := by rw [eL]; exact hle3_15
    refine ⟨(okc (lv_load (v := .slice _ _ _) rfl rfl (by exact ld_blk mt rfl)) (okc (lv_load (v := .slice _ _ _) rfl rfl (by exact ld_blk mt rfl)) okn)), ?_⟩
    refine xp_pure (i := 16) rfl (by kernel_rfl) (by kernel_rfl) rfl rfl rfl (pv_nilCheck_p rfl rfl) ?_
    refine xp_pure (i := 17) rfl (by kernel_rfl) (by kernel_rfl) rfl rfl rfl (pv_fieldAddr rfl rfl) ?_
    refine xp_heavy (i := 18) (by kernel_rfl) ?_
    refine xph_store rfl rfl rfl (hv_store (vs := [.slice _ _ _]) rfl rfl rfl (mt) rfl (Nat.le_of_ble_eq_true rfl) rfl) (pd (by kernel_rfl) (pd (by kernel_rfl) pn)) ?_
    rintro v3_18 H3_18 ⟨hU3_18, hZ3_18⟩
    have hR := hR.offT mt hU3_18.but (by first | rfl | assumption)
    have m0_0 := m0_0.off hU3_18.but (by first | exact nmt_0_0.symm | exact ⟨m0_0.ne mt rfl⟩ | exact ⟨m0_0.ne mt (by assumption)⟩ | exact ⟨Ne.symm (mt.ne m0_0 (by assumption))⟩)
    have hRn := hRn.offT mt hU3_18.but (by first | rfl | assumption)
    have hX := hX.trans hU3_18.but
    have mt := hU3_18.blk
    replace mt : Blk H3_18 bt (.slice a3_15 (delR l k).length c3_15 :: rest) t := by rw [eL]; exact mt
    refine ⟨okn, ?_⟩
    refine xp_done (by kernel_rfl) ?_
    refine xthen_normal ?_
    refine xc_seq ?_
    refine xc_region ?_
    refine xl_pure rfl rfl rfl (pv_move (v := .bool _) rfl rfl) ?_
    refine xl_pure rfl rfl rfl (pv_assign (v := .bool _) rfl rfl) ?_
    refine xl_nil ?_
    refine xthen_normal ?_
    refine xc_ret ?_
    refine fin_ret (res1 (v := .bool _) rfl rfl) ?_
    first
      | exact ⟨_, _, rfl, ⟨hX, mt⟩, hRn, hcn, hcap3_15⟩
      | (rw [del_no hh1_2]; exact ⟨_, _, rfl, ⟨hX, mt⟩, hR, hc, hna⟩)

theorem c95n {O : Outer} {H : Heap}  (k : List Int) (hk : k.length = 4) :
    FnC Try.prog 95 #[.pointer none, .agg (ints k).toArray] O H (fun v H' => v = .bool false ∧ Ext H H') := by
  refine fn_enter (A := [.pointer none, .agg (ints k).toArray]) Try.func95 rfl rfl ?_
  have hX := Ext.refl H
  refine xc_seq ?_
  refine xc_region ?_
  refine xl_heavy rfl rfl rfl (hv_box rfl rfl) ?_
  rintro v0_0 H0_0 ⟨b0_0, rfl, hN0_0⟩
  have gb0_0 := hX.fresh hN0_0
  have hX := hX.trans hN0_0.ext
  have m0_0 := hN0_0.blk
  refine xl_pure rfl rfl rfl (pv_assign (v := .bool _) rfl rfl) ?_
  refine xl_nil ?_
  refine xthen_normal ?_
  refine xc_seq ?_
  refine xc_region ?_
  refine xl_pure rfl rfl rfl (pv_move (v := .pointer _) rfl rfl) ?_
  refine xl_light rfl rfl rfl (lv_load (v := .agg _) rfl rfl (ld_ints m0_0 hk)) ?_
  refine xl_heavy rfl rfl rfl (hv_call (g := 79) rfl rfl (c79n k hk) rfl) ?_
  rintro v1_2 H1_2 ⟨rfl, hE1_2⟩
  have m0_0 := m0_0.ext hE1_2
  have hX := hX.trans hE1_2
  refine xl_pure rfl rfl rfl (pv_move (v := .tuple _) rfl rfl) ?_
  refine xl_pure rfl rfl rfl (pv_extract (v := .int _ _) rfl rfl rfl) ?_
  refine xl_pure rfl rfl rfl (pv_extract (v := .bool _) rfl rfl rfl) ?_
  refine xl_pure rfl rfl rfl (pv_assign (v := .int _ _) rfl rfl) ?_
  refine xl_pure rfl rfl rfl (pv_assign (v := .bool _) rfl rfl) ?_
  refine xl_nil ?_
  refine xthen_normal ?_
  refine xc_seq ?_
  refine xc_seq ?_
  refine xc_region ?_
  refine xl_pure rfl rfl rfl (pv_move (v := .bool _) rfl rfl) ?_
  refine xl_nil ?_
  refine xthen_normal ?_
  refine xc_cond_f rfl ?_
  refine xc_skip ?_
  refine xthen_normal ?_
  refine xc_seq ?_
  refine xc_region ?_
  refine xl_pure rfl rfl rfl (pv_move (v := .bool _) rfl rfl) ?_
  refine xl_pure rfl rfl rfl (pv_assign (v := .bool _) rfl rfl) ?_
  refine xl_nil ?_
  refine xthen_normal ?_
  refine xc_ret ?_
  refine fin_ret (res1 (v := .bool _) rfl rfl) ?_
  exact ⟨rfl, hX⟩

theorem c90 {O : Outer} {H : Heap} {a : Option Addr} {n c : Nat} :
    FnC Try.prog 90 #[.slice a n c] O H (fun v H' => ∃ b, v = .func (.func 102) #[] #[.pointer (some ⟨b, 0, none⟩)] ∧ New H H' b [.slice a n c] 82) := by
  refine fn_enter (A := [.slice a n c]) Try.func90 rfl rfl ?_
  have hX := Ext.refl H
  refine xc_seq ?_
  refine xc_region ?_
  refine xl_heavy rfl rfl rfl (hv_box rfl rfl) ?_
  rintro v0_0 H0_0 ⟨b0_0, rfl, hN0_0⟩
  have gb0_0 := hX.fresh hN0_0
  have hX := hX.trans hN0_0.ext
  have m0_0 := hN0_0.blk
  refine xl_pure rfl rfl rfl (pv_assign rfl rfl) ?_
  refine xl_nil ?_
  refine xthen_normal ?_
  refine xc_seq ?_
  refine xc_region ?_
  refine xl_pure rfl rfl rfl (pv_makeFunc (a := []) (b := [.pointer _]) rfl rfl rfl) ?_
  refine xl_pure rfl rfl rfl (pv_assign rfl rfl) ?_
  refine xl_nil ?_
  refine xthen_normal ?_
  refine xc_ret ?_
  refine fin_ret (res1 rfl rfl) ?_
  exact ⟨_, rfl, hN0_0⟩

theorem c102 {O : Outer} {H : Heap} {a : Option Addr} {c bl lp : Nat} {l : List (List Int)} {J : Nat → Heap → Prop} {Jx : Heap → Prop} (hl : l.length < 1099511627776) (hJe : ∀ i H H', J i H → Ext H H' → J i H') (hXe : ∀ H H', Jx H → Ext H H' → Jx H') (hJR : ∀ i H, J i H → RowsT H 138 5 a l) (hJ0 : ∀ H, J 0 H → Blk H bl [.slice a l.length c] 82) (hY : ∀ i H, i < l.length → J i H → Yld Try.prog O lp [.agg (ints (ky (gr l i))).toArray, .int .i64 ((gr l i).getD 4 0)] H (fun b H' => b = true ∧ J (i + 1) H' ∨ b = false ∧ Jx H')) (hJ : J 0 H) :
    FnC Try.prog 102 #[.func (.yield lp) #[] #[], .pointer (some ⟨bl, 0, none⟩)] O H (fun _ H' => J l.length H' ∨ Jx H') := by
  have mb := hJ0 _ hJ
  refine fn_enter (A := [.func (.yield lp) #[] #[], .pointer (some ⟨bl, 0, none⟩)]) Try.func102 rfl rfl ?_
  have hX := Ext.refl H
  refine xc_seq ?_
  refine xc_region ?_
  refine xl_light rfl rfl rfl (lv_load (v := .slice _ _ _) rfl rfl (ld_blk mb rfl)) ?_
  refine xl_pure rfl rfl rfl (pv_len_l rfl rfl) ?_
  refine xl_pure rfl rfl rfl (pv_move (v := .int _ _) rfl rfl) ?_
  refine xl_nil ?_
  refine xthen_normal ?_
  refine xc_block ?_
  refine xc_loop (τ := Nat) (fun t => [(0, .func (.yield lp) #[] #[]), (5, .slice a l.length c), (6, .int .i64 (l.length : Nat)), (7, .int .i64 (t : Nat))]) (fun t H' => (t ≤ l.length) ∧ (J t H') ∧ (True)) (fun t H' => l.length - t) 0 ?_ ?_ ?_
  · exact ⟨rfl, rfl, rfl, rfl, trivial⟩
  · skip
    exact ⟨Nat.zero_le _, hJ, trivial⟩
  · intro σ
    clear hX mb
    rintro i Hl1 ⟨hi, hJ, hX⟩
    replace hi : i ≤ l.length := hi
    replace hJ : J i Hl1 := hJ
    replace hX : True := hX
    have hX := Ext.refl Hl1
    have hR := hJR _ _ hJ
    obtain ⟨ba, off, hae⟩ := hR.at
    show XC _ _ _ (upds σ [(0, .func (.yield lp) #[] #[]), (5, .slice a l.length c), (6, .int .i64 (l.length : Nat)), (7, .int .i64 (i : Nat))]) _
    refine xc_seq ?_
    refine xc_region ?_
    refine xl_dec rfl rfl rfl (pv_lss rfl rfl rfl) (fun h1_0 => ?_) (fun h1_0 => ?_)
    · skip
      refine xl_nil ?_
      refine xthen_normal ?_
      refine xc_seq ?_
      refine xc_cond_t rfl ?_
      refine xc_skip ?_
      refine xthen_normal ?_
      refine xc_seq ?_
      refine xc_block ?_
      refine xc_seq ?_
      have hwi := hR.wide.get (show i < l.length by omega)
      refine xc_region ?_
      refine xl_pure rfl rfl rfl (pv_indexAddr_l rfl (sl_eq (hae (by omega)).1) rfl (by omega)) ?_
      refine xl_light rfl rfl rfl (lv_load (v := .agg _) rfl rfl (by exact ld_row' (hae (by omega)).2 hR.wide (by omega))) ?_
      refine xl_heavy rfl rfl rfl (hv_alloc rfl rfl) ?_
      rintro v2_2 H2_2 ⟨b2_2, rfl, hN2_2⟩
      have gb2_2 := hX.fresh hN2_2
      have hX := hX.trans hN2_2.ext
      have m2_2 := hN2_2.blk
      refine xl_store rfl rfl (hv_storeA (vs := ints (gr l i)) rfl rfl rfl (m2_2) (ints_ten hwi) (by rfl) (ints_one _)) ?_
      rintro v2_3 H2_3 ⟨hU2_3, hZ2_3⟩
      have hX := hX.upd hU2_3.but gb2_2
      have m2_2 := hU2_3.blk
      refine xl_nil ?_
      refine xthen_normal ?_
      refine xc_seq ?_
      refine xc_region ?_
      refine xl_pure rfl rfl rfl (pv_move rfl rfl) ?_
      refine xl_pure rfl rfl rfl (pv_fieldAddr rfl rfl) ?_
      refine xl_light rfl rfl rfl (lv_load (v := .agg _) rfl rfl (ld_ky m2_2 (by omega))) ?_
      refine xl_pure rfl rfl rfl (pv_fieldAddr rfl rfl) ?_
      refine xl_light rfl rfl rfl (lv_load (v := .int _ _) rfl rfl (by exact ld_get (i := 4) m2_2 (by omega))) ?_
      refine xl_yield rfl rfl rfl (hy_yield rfl rfl rfl (hY i _ (by omega) (hJe _ _ _ hJ hX))) ?_
      rintro v3_5 H3_5 ⟨b3_5, rfl, hb3_5⟩
      rcases hb3_5 with ⟨rfl, hJ⟩ | ⟨rfl, hJx⟩
      · skip
        refine xl_pure rfl rfl rfl (pv_not rfl rfl) ?_
        refine xl_nil ?_
        refine xthen_normal ?_
        refine xc_cond_f rfl ?_
        refine xc_skip ?_
        refine xblock_normal ?_
        refine xthen_normal ?_
        refine xc_region ?_
        refine xl_pure rfl rfl rfl (pv_add rfl rfl rfl (fit_i64 (by omega))) ?_
        refine xl_pure rfl rfl rfl (pv_move (v := .int _ _) rfl rfl) ?_
        refine xl_nil ?_
        refine xthen_normal ?_
        exact ⟨i + 1, ⟨rfl, rfl, rfl, rfl, trivial⟩, ⟨by (try simp only); omega, hJ, trivial⟩, by (try simp only); omega⟩
      · skip
        refine xl_pure rfl rfl rfl (pv_not rfl rfl) ?_
        refine xl_nil ?_
        refine xthen_normal ?_
        refine xc_cond_t rfl ?_
        refine xc_ret ?_
        refine xblock_ret ?_
        refine xthen_ret ?_
        refine xthen_ret ?_
        refine xblock_ret ?_
        refine fin_ret (res0 rfl) ?_
        exact .inr hJx
    · skip
      refine xl_nil ?_
      refine xthen_normal ?_
      refine xc_seq ?_
      refine xc_cond_f rfl ?_
      refine xc_exit ?_
      refine xthen_exit ?_
      refine xthen_exit ?_
      refine xblock_same ?_
      refine fin_normal (res0 rfl) ?_
      exact .inl (by rw [show l.length = i by omega]; exact hJ)

theorem c64 {O : Outer} {H : Heap} (p : Option Addr) :
    FnC Try.prog 64 #[.pointer p] O H (fun v H' => ∃ b, v = .func (.func 89) #[] #[.pointer (some ⟨b, 0, none⟩)] ∧ New H H' b [.pointer p] 136) := by
  refine fn_enter (A := [.pointer p]) Try.func64 rfl rfl ?_
  have hX := Ext.refl H
  refine xc_seq ?_
  refine xc_region ?_
  refine xl_heavy rfl rfl rfl (hv_box rfl rfl) ?_
  rintro v0_0 H0_0 ⟨b0_0, rfl, hN0_0⟩
  have gb0_0 := hX.fresh hN0_0
  have hX := hX.trans hN0_0.ext
  have m0_0 := hN0_0.blk
  refine xl_pure rfl rfl rfl (pv_assign rfl rfl) ?_
  refine xl_nil ?_
  refine xthen_normal ?_
  refine xc_seq ?_
  refine xc_region ?_
  refine xl_pure rfl rfl rfl (pv_makeFunc (a := []) (b := [.pointer _]) rfl rfl rfl) ?_
  refine xl_pure rfl rfl rfl (pv_assign rfl rfl) ?_
  refine xl_nil ?_
  refine xthen_normal ?_
  refine xc_ret ?_
  refine fin_ret (res1 rfl rfl) ?_
  exact ⟨_, rfl, hN0_0⟩

theorem c89 {O : Outer} {H : Heap} {bt b1 t c lp : Nat} {rest : List Value} {a : Option Addr} {l : List (List Int)} {J : Nat → Heap → Prop} {Jx : Heap → Prop} (hl : l.length < 1099511627776) (hJe : ∀ i H H', J i H → Ext H H' → J i H') (hXe : ∀ H H', Jx H → Ext H H' → Jx H') (hJR : ∀ i H, J i H → RowsT H 138 5 a l) (hJ0 : ∀ H, J 0 H → Blk H b1 [.pointer (some ⟨bt, 0, none⟩)] 136 ∧ Blk H bt (.slice a l.length c :: rest) t) (hY : ∀ i H, i < l.length → J i H → Yld Try.prog O lp [.agg (ints (ky (gr l i))).toArray, .int .i64 ((gr l i).getD 4 0)] H (fun b H' => b = true ∧ J (i + 1) H' ∨ b = false ∧ Jx H')) (hJ : J 0 H) :
    FnC Try.prog 89 #[.func (.yield lp) #[] #[], .pointer (some ⟨b1, 0, none⟩)] O H (fun _ H' => J l.length H' ∨ Jx H') := by
  obtain ⟨m1, mt⟩ := hJ0 _ hJ
  refine fn_enter (A := [.func (.yield lp) #[] #[], .pointer (some ⟨b1, 0, none⟩)]) Try.func89 rfl rfl ?_
  have hX := Ext.refl H
  refine xc_region ?_
  refine xl_light rfl rfl rfl (lv_load (v := .pointer _) rfl rfl (ld_blk m1 rfl)) ?_
  refine xl_heavy rfl rfl rfl (hv_call (g := 91) rfl rfl (c91 mt) rfl) ?_
  rintro v0_1 H0_1 ⟨rfl, rfl⟩
  refine xl_heavy rfl rfl rfl (hv_call (g := 90) rfl rfl (c90) rfl) ?_
  rintro v0_2 H0_2 ⟨b0_2, rfl, hN0_2⟩
  have hX := hX.trans hN0_2.ext
  refine xl_pure rfl rfl rfl (pv_move rfl rfl) ?_
  refine xl_heavy rfl rfl rfl (hv_call (g := 102) rfl rfl (c102 (bl := b0_2) (c := c) (a := a) (l := l) (J := fun i H2 => J i H2 ∧ (i = 0 → Blk H2 b0_2 [.slice (a) (List.length (l)) (c)] 82)) hl (fun i H1 H2 h e => ⟨hJe _ _ _ h.1 e, fun h0 => (h.2 h0).ext e⟩) hXe (fun i H1 h => hJR _ _ h.1) (fun H1 h => h.2 rfl) (fun i H1 hi h => (hY i H1 hi h.1).mono fun b H2 hb => hb.imp (fun h => ⟨h.1, h.2, fun h0 => absurd h0 (by omega)⟩) id) ⟨hJe _ _ _ hJ hX, fun _ => hN0_2.blk⟩) rfl) ?_
  rintro v0_4 H0_4 hj0_4
  refine xl_nil ?_
  refine fin_normal (res0 rfl) ?_
  exact hj0_4.imp (fun h => h.1) id

theorem c89n {O : Outer} {H : Heap} {b1 lp : Nat} {J : Nat → Heap → Prop} {Jx : Heap → Prop} (hJe : ∀ i H H', J i H → Ext H H' → J i H') (hXe : ∀ H H', Jx H → Ext H H' → Jx H') (hJ0 : ∀ H, J 0 H → Blk H b1 [.pointer none] 136) (hJ : J 0 H) :
    FnC Try.prog 89 #[.func (.yield lp) #[] #[], .pointer (some ⟨b1, 0, none⟩)] O H (fun _ H' => J 0 H' ∨ Jx H') := by
  have m1 := hJ0 _ hJ
  refine fn_enter (A := [.func (.yield lp) #[] #[], .pointer (some ⟨b1, 0, none⟩)]) Try.func89 rfl rfl ?_
  have hX := Ext.refl H
  refine xc_region ?_
  refine xl_light rfl rfl rfl (lv_load (v := .pointer _) rfl rfl (ld_blk m1 rfl)) ?_
  refine xl_heavy rfl rfl rfl (hv_call (g := 91) rfl rfl (c91n) rfl) ?_
  rintro v0_1 H0_1 ⟨rfl, rfl⟩
  refine xl_heavy rfl rfl rfl (hv_call (g := 90) rfl rfl (c90) rfl) ?_
  rintro v0_2 H0_2 ⟨b0_2, rfl, hN0_2⟩
  have hX := hX.trans hN0_2.ext
  refine xl_pure rfl rfl rfl (pv_move rfl rfl) ?_
  refine xl_heavy rfl rfl rfl (hv_call (g := 102) rfl rfl (c102 (bl := b0_2) (c := 0) (a := none) (l := []) (J := fun i H2 => J i H2 ∧ (i = 0 → Blk H2 b0_2 [.slice (none) (List.length ([])) (0)] 82)) (by decide) (fun i H1 H2 h e => ⟨hJe _ _ _ h.1 e, fun h0 => (h.2 h0).ext e⟩) hXe (fun i H1 h => RowsT.nil) (fun H1 h => h.2 rfl) (fun i H1 hi h => absurd hi (by simp)) ⟨hJe _ _ _ hJ hX, fun _ => hN0_2.blk⟩) rfl) ?_
  rintro v0_4 H0_4 hj0_4
  refine xl_nil ?_
  refine fin_normal (res0 rfl) ?_
  exact hj0_4.imp (fun h => h.1) id

/-- All, as an iterator. -/
theorem tAll {O : Outer} {bt b1 t c : Nat} {rest : List Value} {a : Option Addr} {l : List (List Int)} (hl : l.length < 1099511627776) :
    It Try.prog O 89 [.pointer (some ⟨b1, 0, none⟩)] l.length (fun i => [.agg (ints (ky (gr l i))).toArray, .int .i64 ((gr l i).getD 4 0)]) (fun H => Blk H b1 [.pointer (some ⟨bt, 0, none⟩)] 136 ∧ Blk H bt (.slice a l.length c :: rest) t) (fun H => RowsT H 138 5 a l) :=
  fun _ _ _ h1 h2 h3 h4 h5 _ h0 => c89 hl h1 h2 h3 h4 h5 h0
theorem tAlln {O : Outer} {b1 : Nat} (f : Nat → List Value) : It Try.prog O 89 [.pointer (some ⟨b1, 0, none⟩)] 0 f (fun H => Blk H b1 [.pointer none] 136) (fun _ => True) :=
  fun _ _ _ h1 h2 _ h4 _ _ h0 => c89n h1 h2 h4 h0

theorem c81 {O : Outer} {H : Heap} (p : Option Addr) (fk tk : List Int) (hf : fk.length = 4) (ht : tk.length = 4) :
    FnC Try.prog 81 #[.pointer p, .agg (ints fk).toArray, .agg (ints tk).toArray] O H (fun v H' => ∃ b1 b2 b3, v = .func (.func 99) #[] #[.pointer (some ⟨b1, 0, none⟩), .pointer (some ⟨b2, 0, none⟩), .pointer (some ⟨b3, 0, none⟩)] ∧ Blk H' b1 [.pointer p] 136 ∧ Blk H' b2 (ints fk) 103 ∧ Blk H' b3 (ints tk) 103 ∧ Ext H H') := by
  refine fn_enter (A := [.pointer p, .agg (ints fk).toArray, .agg (ints tk).toArray]) Try.func81 rfl rfl ?_
  have hX := Ext.refl H
  refine xc_seq ?_
  refine xc_region ?_
  refine xl_heavy rfl rfl rfl (hv_box rfl rfl) ?_
  rintro v0_0 H0_0 ⟨b0_0, rfl, hN0_0⟩
  have gb0_0 := hX.fresh hN0_0
  have hX := hX.trans hN0_0.ext
  have m0_0 := hN0_0.blk
  refine xl_heavy rfl rfl rfl (hv_box rfl rfl) ?_
  rintro v0_1 H0_1 ⟨b0_1, rfl, hN0_1⟩
  have gb0_1 := hX.fresh hN0_1
  have nm0_0_0_1 := m0_0.apart hN0_1
  have m0_0 := m0_0.ext hN0_1.ext
  have hX := hX.trans hN0_1.ext
  have m0_1 := hN0_1.blk
  refine xl_heavy rfl rfl rfl (hv_box rfl rfl) ?_
  rintro v0_2 H0_2 ⟨b0_2, rfl, hN0_2⟩
  have gb0_2 := hX.fresh hN0_2
  have nm0_0_0_2 := m0_0.apart hN0_2
  have nm0_1_0_2 := m0_1.apart hN0_2
  have m0_0 := m0_0.ext hN0_2.ext
  have m0_1 := m0_1.ext hN0_2.ext
  have hX := hX.trans hN0_2.ext
  have m0_2 := hN0_2.blk
  refine xl_pure rfl rfl rfl (pv_assign rfl rfl) ?_
  refine xl_nil ?_
  refine xthen_normal ?_
  refine xc_seq ?_
  refine xc_region ?_
  refine xl_pure rfl rfl rfl (pv_makeFunc (a := []) (b := [.pointer _, .pointer _, .pointer _]) rfl rfl rfl) ?_
  refine xl_pure rfl rfl rfl (pv_assign rfl rfl) ?_
  refine xl_nil ?_
  refine xthen_normal ?_
  refine xc_ret ?_
  refine fin_ret (res1 rfl rfl) ?_
  exact ⟨_, _, _, rfl, m0_0, m0_1, m0_2, hX⟩

theorem c99 {O : Outer} {H : Heap} {bt b1 b2 b3 t c lp : Nat} {rest : List Value} {a : Option Addr} {l : List (List Int)} {J : Nat → Heap → Prop} {Jx : Heap → Prop} (hl : l.length < 1099511627776) (hJe : ∀ i H H', J i H → Ext H H' → J i H') (hXe : ∀ H H', Jx H → Ext H H' → Jx H') (hJR : ∀ i H, J i H → RowsT H 138 5 a l) (hne : Nat.beq t 138 = false) (hs : Srt l) (hc : l.length ≤ c) (hna : a = none → c = 0) (fk tk : List Int) (hf : fk.length = 4) (ht : tk.length = 4) (hJ0 : ∀ H, J 0 H → Blk H b1 [.pointer (some ⟨bt, 0, none⟩)] 136 ∧ Blk H b2 (ints fk) 103 ∧ Blk H b3 (ints tk) 103 ∧ Blk H bt (.slice a l.length c :: rest) t) (hY : ∀ i H, i < (rngR l fk tk).length → J i H → Yld Try.prog O lp [.agg (ints (ky (gr (rngR l fk tk) i))).toArray, .int .i64 ((gr (rngR l fk tk) i).getD 4 0)] H (fun b H' => b = true ∧ J (i + 1) H' ∨ b = false ∧ Jx H')) (hJ : J 0 H) :
    FnC Try.prog 99 #[.func (.yield lp) #[] #[], .pointer (some ⟨b1, 0, none⟩), .pointer (some ⟨b2, 0, none⟩), .pointer (some ⟨b3, 0, none⟩)] O H (fun _ H' => J (rngR l fk tk).length H' ∨ Jx H') := by
  obtain ⟨m1, m2, m3, mt⟩ := hJ0 _ hJ
  have hR := hJR _ _ hJ
  have hbf := bel_le l fk
  have hbt := bel_le l tk
  refine fn_enter (A := [.func (.yield lp) #[] #[], .pointer (some ⟨b1, 0, none⟩), .pointer (some ⟨b2, 0, none⟩), .pointer (some ⟨b3, 0, none⟩)]) Try.func99 rfl rfl ?_
  have hX := Ext.refl H
  refine xc_seq ?_
  refine xc_region ?_
  refine xl_light rfl rfl rfl (lv_load (v := .pointer _) rfl rfl (ld_blk m1 rfl)) ?_
  refine xl_light rfl rfl rfl (lv_load (v := .agg _) rfl rfl (ld_ints m2 hf)) ?_
  refine xl_heavy rfl rfl rfl (hv_call (g := 79) rfl rfl (c79 mt hR hne hs hc hna hl fk hf) rfl) ?_
  rintro v0_2 H0_2 ⟨rfl, hE0_2⟩
  have m1 := m1.ext hE0_2
  have m2 := m2.ext hE0_2
  have m3 := m3.ext hE0_2
  have mt := mt.ext hE0_2
  have hR := hR.ext hE0_2
  have hX := hX.trans hE0_2
  refine xl_pure rfl rfl rfl (pv_move (v := .tuple _) rfl rfl) ?_
  refine xl_pure rfl rfl rfl (pv_extract (v := .int _ _) rfl rfl rfl) ?_
  refine xl_pure rfl rfl rfl (pv_extract (v := .bool _) rfl rfl rfl) ?_
  refine xl_pure rfl rfl rfl (pv_assign (v := .int _ _) rfl rfl) ?_
  refine xl_pure rfl rfl rfl (pv_assign (v := .bool _) rfl rfl) ?_
  refine xl_nil ?_
  refine xthen_normal ?_
  refine xc_seq ?_
  refine xc_region ?_
  refine xl_light rfl rfl rfl (lv_load (v := .pointer _) rfl rfl (ld_blk m1 rfl)) ?_
  refine xl_light rfl rfl rfl (lv_load (v := .agg _) rfl rfl (ld_ints m3 ht)) ?_
  refine xl_heavy rfl rfl rfl (hv_call (g := 79) rfl rfl (c79 mt hR hne hs hc hna hl tk ht) rfl) ?_
  rintro v1_2 H1_2 ⟨rfl, hE1_2⟩
  have m1 := m1.ext hE1_2
  have m2 := m2.ext hE1_2
  have m3 := m3.ext hE1_2
  have mt := mt.ext hE1_2
  have hR := hR.ext hE1_2
  have hX := hX.trans hE1_2
  refine xl_pure rfl rfl rfl (pv_move (v := .tuple _) rfl rfl) ?_
  refine xl_pure rfl rfl rfl (pv_extract (v := .int _ _) rfl rfl rfl) ?_
  refine xl_pure rfl rfl rfl (pv_extract (v := .bool _) rfl rfl rfl) ?_
  refine xl_pure rfl rfl rfl (pv_assign (v := .int _ _) rfl rfl) ?_
  refine xl_pure rfl rfl rfl (pv_assign (v := .bool _) rfl rfl) ?_
  refine xl_nil ?_
  refine xthen_normal ?_
  refine xc_region ?_
  refine xl_light rfl rfl rfl (lv_load (v := .pointer _) rfl rfl (ld_blk m1 rfl)) ?_
  refine xl_heavy rfl rfl rfl (hv_call (g := 91) rfl rfl (c91 mt) rfl) ?_
  rintro v2_1 H2_1 ⟨rfl, rfl⟩
  refine xl_pure rfl rfl rfl (pv_move (v := .int _ _) rfl rfl) ?_
  refine xl_pure rfl rfl rfl (pv_move (v := .int _ _) rfl rfl) ?_
  refine xl_pure rfl rfl rfl (pv_move (v := .int _ _) rfl rfl) ?_
  refine xl_pure rfl rfl rfl (pv_maxn rfl rfl rfl) ?_
  refine xl_pure rfl rfl rfl (pv_slice_l rfl rfl (.none _) (.some rfl (by omega)) (.some rfl (by omega)) (by omega) (by simp)) ?_
  refine xl_heavy rfl rfl rfl (hv_call (g := 90) rfl rfl (c90) rfl) ?_
  rintro v2_7 H2_7 ⟨b2_7, rfl, hN2_7⟩
  have hX := hX.trans hN2_7.ext
  have hbk := hN2_7.blk
  have hbk : Blk H2_7 b2_7 [.slice (cutA a (bel l fk) c 5) (rngR l fk tk).length (c - bel l fk)] 82 := by rw [← rng_len]; exact hbk
  refine xl_pure rfl rfl rfl (pv_move rfl rfl) ?_
  refine xl_heavy rfl rfl rfl (hv_call (g := 102) rfl rfl (c102 (bl := b2_7) (c := (c - bel l fk)) (a := (cutA a (bel l fk) c 5)) (l := rngR l fk tk) (J := fun i H2 => J i H2 ∧ (i = 0 → Blk H2 b2_7 [.slice ((cutA a (bel l fk) c 5)) (List.length (rngR l fk tk)) ((c - bel l fk))] 82)) (by rw [← rng_len]; omega) (fun i H1 H2 h e => ⟨hJe _ _ _ h.1 e, fun h0 => (h.2 h0).ext e⟩) hXe (fun i H1 h => (hJR _ _ h.1).mid (by omega) (by omega) hc) (fun H1 h => h.2 rfl) (fun i H1 hi h => (hY i H1 hi h.1).mono fun b H2 hb => hb.imp (fun h => ⟨h.1, h.2, fun h0 => absurd h0 (by omega)⟩) id) ⟨hJe _ _ _ hJ hX, fun _ => hbk⟩) rfl) ?_
  rintro v2_9 H2_9 hj2_9
  refine xl_nil ?_
  refine fin_normal (res0 rfl) ?_
  exact hj2_9.imp (fun h => h.1) id

/-- Range, as an iterator. -/
theorem tRange {O : Outer} {bt b1 b2 b3 t c : Nat} {rest : List Value} {a : Option Addr} {l : List (List Int)} (hl : l.length < 1099511627776) (hne : Nat.beq t 138 = false) (hs : Srt l) (hc : l.length ≤ c) (hna : a = none → c = 0) (fk tk : List Int) (hf : fk.length = 4) (ht : tk.length = 4) :
    It Try.prog O 99 [.pointer (some ⟨b1, 0, none⟩), .pointer (some ⟨b2, 0, none⟩), .pointer (some ⟨b3, 0, none⟩)] (rngR l fk tk).length (fun i => [.agg (ints (ky (gr (rngR l fk tk) i))).toArray, .int .i64 ((gr (rngR l fk tk) i).getD 4 0)]) (fun H => Blk H b1 [.pointer (some ⟨bt, 0, none⟩)] 136 ∧ Blk H b2 (ints fk) 103 ∧ Blk H b3 (ints tk) 103 ∧ Blk H bt (.slice a l.length c :: rest) t) (fun H => RowsT H 138 5 a l) :=
  fun _ _ _ h1 h2 h3 h4 h5 _ h0 => c99 hl h1 h2 h3 hne hs hc hna fk tk hf ht h4 h5 h0

theorem c99n {O : Outer} {H : Heap} {b1 b2 b3 lp : Nat} {J : Nat → Heap → Prop} {Jx : Heap → Prop} (hJe : ∀ i H H', J i H → Ext H H' → J i H') (hXe : ∀ H H', Jx H → Ext H H' → Jx H') (fk tk : List Int) (hf : fk.length = 4) (ht : tk.length = 4) (hJ0 : ∀ H, J 0 H → Blk H b1 [.pointer none] 136 ∧ Blk H b2 (ints fk) 103 ∧ Blk H b3 (ints tk) 103) (hJ : J 0 H) :
    FnC Try.prog 99 #[.func (.yield lp) #[] #[], .pointer (some ⟨b1, 0, none⟩), .pointer (some ⟨b2, 0, none⟩), .pointer (some ⟨b3, 0, none⟩)] O H (fun _ H' => J 0 H' ∨ Jx H') := by
  obtain ⟨m1, m2, m3⟩ := hJ0 _ hJ
  refine fn_enter (A := [.func (.yield lp) #[] #[], .pointer (some ⟨b1, 0, none⟩), .pointer (some ⟨b2, 0, none⟩), .pointer (some ⟨b3, 0, none⟩)]) Try.func99 rfl rfl ?_
  have hX := Ext.refl H
  refine xc_seq ?_
  refine xc_region ?_
  refine xl_light rfl rfl rfl (lv_load (v := .pointer _) rfl rfl (ld_blk m1 rfl)) ?_
  refine xl_light rfl rfl rfl (lv_load (v := .agg _) rfl rfl (ld_ints m2 hf)) ?_
  refine xl_heavy rfl rfl rfl (hv_call (g := 79) rfl rfl (c79n fk hf) rfl) ?_
  rintro v0_2 H0_2 ⟨rfl, hE0_2⟩
  have m1 := m1.ext hE0_2
  have m2 := m2.ext hE0_2
  have m3 := m3.ext hE0_2
  have hX := hX.trans hE0_2
  refine xl_pure rfl rfl rfl (pv_move (v := .tuple _) rfl rfl) ?_
  refine xl_pure rfl rfl rfl (pv_extract (v := .int _ _) rfl rfl rfl) ?_
  refine xl_pure rfl rfl rfl (pv_extract (v := .bool _) rfl rfl rfl) ?_
  refine xl_pure rfl rfl rfl (pv_assign (v := .int _ _) rfl rfl) ?_
  refine xl_pure rfl rfl rfl (pv_assign (v := .bool _) rfl rfl) ?_
  refine xl_nil ?_
  refine xthen_normal ?_
  refine xc_seq ?_
  refine xc_region ?_
  refine xl_light rfl rfl rfl (lv_load (v := .pointer _) rfl rfl (ld_blk m1 rfl)) ?_
  refine xl_light rfl rfl rfl (lv_load (v := .agg _) rfl rfl (ld_ints m3 ht)) ?_
  refine xl_heavy rfl rfl rfl (hv_call (g := 79) rfl rfl (c79n tk ht) rfl) ?_
  rintro v1_2 H1_2 ⟨rfl, hE1_2⟩
  have m1 := m1.ext hE1_2
  have m2 := m2.ext hE1_2
  have m3 := m3.ext hE1_2
  have hX := hX.trans hE1_2
  refine xl_pure rfl rfl rfl (pv_move (v := .tuple _) rfl rfl) ?_
  refine xl_pure rfl rfl rfl (pv_extract (v := .int _ _) rfl rfl rfl) ?_
  refine xl_pure rfl rfl rfl (pv_extract (v := .bool _) rfl rfl rfl) ?_
  refine xl_pure rfl rfl rfl (pv_assign (v := .int _ _) rfl rfl) ?_
  refine xl_pure rfl rfl rfl (pv_assign (v := .bool _) rfl rfl) ?_
  refine xl_nil ?_
  refine xthen_normal ?_
  refine xc_region ?_
  refine xl_light rfl rfl rfl (lv_load (v := .pointer _) rfl rfl (ld_blk m1 rfl)) ?_
  refine xl_heavy rfl rfl rfl (hv_call (g := 91) rfl rfl (c91n) rfl) ?_
  rintro v2_1 H2_1 ⟨rfl, rfl⟩
  refine xl_pure rfl rfl rfl (pv_move (v := .int _ _) rfl rfl) ?_
  refine xl_pure rfl rfl rfl (pv_move (v := .int _ _) rfl rfl) ?_
  refine xl_pure rfl rfl rfl (pv_move (v := .int _ _) rfl rfl) ?_
  refine xl_pure rfl rfl rfl (pv_maxn (m := 0) (n := 0) rfl rfl rfl) ?_
  refine xl_pure rfl rfl rfl (pv_slice_l rfl rfl (.none _) (.some rfl (by omega)) (.some rfl (by omega)) (by omega) (by simp)) ?_
  refine xl_heavy rfl rfl rfl (hv_call (g := 90) rfl rfl (c90) rfl) ?_
  rintro v2_7 H2_7 ⟨b2_7, rfl, hN2_7⟩
  have hX := hX.trans hN2_7.ext
  have hbk := hN2_7.blk
  have hbk : Blk H2_7 b2_7 [.slice none 0 0] 82 := hbk
  refine xl_pure rfl rfl rfl (pv_move rfl rfl) ?_
  refine xl_heavy rfl rfl rfl (hv_call (g := 102) rfl rfl (c102 (bl := b2_7) (c := 0) (a := none) (l := []) (J := fun i H2 => J i H2 ∧ (i = 0 → Blk H2 b2_7 [.slice (none) (List.length ([])) (0)] 82)) (by decide) (fun i H1 H2 h e => ⟨hJe _ _ _ h.1 e, fun h0 => (h.2 h0).ext e⟩) hXe (fun i H1 h => RowsT.nil) (fun H1 h => h.2 rfl) (fun i H1 hi h => absurd hi (by simp)) ⟨hJe _ _ _ hJ hX, fun _ => hbk⟩) rfl) ?_
  rintro v2_9 H2_9 hj2_9
  refine xl_nil ?_
  refine fin_normal (res0 rfl) ?_
  exact hj2_9.imp (fun h => h.1) id

theorem tRangen {O : Outer} {b1 b2 b3 : Nat} (fk tk : List Int) (hf : fk.length = 4) (ht : tk.length = 4) (f : Nat → List Value) :
    It Try.prog O 99 [.pointer (some ⟨b1, 0, none⟩), .pointer (some ⟨b2, 0, none⟩), .pointer (some ⟨b3, 0, none⟩)] 0 f (fun H => Blk H b1 [.pointer none] 136 ∧ Blk H b2 (ints fk) 103 ∧ Blk H b3 (ints tk) 103) (fun _ => True) :=
  fun _ _ _ h1 h2 _ h4 _ _ h0 => c99n h1 h2 fk tk hf ht h4 h0
end Go.XG
