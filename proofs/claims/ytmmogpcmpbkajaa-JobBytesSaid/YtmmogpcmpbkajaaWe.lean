/-
  Walks of the seat's functions over the logic XG: each function, what it computes. Printed by a program out of wip/walks.py.
-/
import Derived.Test.YtmmogpcmpbkajaaI
import Derived.Test.YtmmogpcmpbkajaaP
import Derived.Test.YtmmogpcmpbkajaaL
import Derived.Test.YtmmogpcmpbkajaaWa
import Derived.Test.YtmmogpcmpbkajaaWb
import Derived.Test.YtmmogpcmpbkajaaWc
import Derived.Test.YtmmogpcmpbkajaaWd
namespace Go.XG
open Go.Proofs
set_option maxRecDepth 4000
set_option maxHeartbeats 4000000
theorem c45 {O : Outer} {H : Heap} {b bn : Nat} (j : J) (a : Option Addr) (c : Nat) (now : Int) (hg : Good j) (hnow : 0 ≤ now ∧ now ≤ 1099511627776) (hr : Blk H b (jcs j a c) 26) (hn : Blk H bn [.int .i64 now] 3) (hne : bn ≠ b) :
    FnC Try.prog 45 #[.pointer (some ⟨b, 0, none⟩), .pointer (some ⟨bn, 0, none⟩)] O H (fun v H' => v = .bool (actB j 1 now).1 ∧ Upd H H' b (jcs (actB j 1 now).2 a c) 26) := by
  have hst : Stands j := hg.2.2.2.2
  have hsx : Six j := hg.1
  unfold Stands at hst
  unfold Six at hsx
  refine fn_enter (A := [.pointer (some ⟨b, 0, none⟩), .pointer (some ⟨bn, 0, none⟩)]) Try.func45 rfl rfl ?_
  refine xc_seq ?_
  refine xc_region ?_
  refine xl_pure rfl rfl rfl (pv_assign (v := .bool _) rfl rfl) ?_
  refine xl_nil ?_
  refine xthen_normal ?_
  refine xc_seq ?_
  refine xc_region ?_
  refine xl_pure rfl rfl rfl (pv_move (v := .pointer _) rfl rfl) ?_
  refine xl_pure rfl rfl rfl (pv_nilCheck_p rfl rfl) ?_
  refine xl_pure rfl rfl rfl (pv_fieldAddr rfl rfl) ?_
  refine xl_light rfl rfl rfl (lv_load (v := .int _ _) rfl rfl (by first | exact ld_blk hr rfl | exact ld_blk hn rfl | exact hr)) ?_
  refine xl_dec rfl rfl rfl (pv_eql rfl rfl rfl) (fun h1_4 => ?_) (fun h1_4 => ?_)
  · skip
    refine xl_pure rfl rfl rfl (pv_assign (v := .bool _) rfl rfl) ?_
    refine xl_nil ?_
    refine xthen_normal ?_
    refine xc_seq ?_
    refine xp_start rfl (by repeat (first | with_reducible exact np_fin | with_reducible refine np_then ?_ | with_reducible refine np_block ?_)) (by kernel_rfl) ?_
    refine xp_pure (i := 0) rfl (by kernel_rfl) (by kernel_rfl) rfl rfl rfl (pv_move (v := .pointer _) rfl rfl) ?_
    refine xp_pure (i := 1) rfl (by kernel_rfl) (by kernel_rfl) rfl rfl rfl (pv_move (v := .pointer _) rfl rfl) ?_
    refine xp_pure (i := 2) rfl (by kernel_rfl) (by kernel_rfl) rfl rfl rfl (pv_move (v := .pointer _) rfl rfl) ?_
    refine xp_light (i := 3) rfl (by kernel_rfl) (by kernel_rfl) rfl rfl rfl (lv_load (v := .int _ _) rfl rfl (by first | exact ld_blk hr rfl | exact ld_blk hn rfl | exact hr)) ?_
    refine xp_light (i := 4) rfl (by kernel_rfl) (by kernel_rfl) rfl rfl rfl (lv_load (v := .int _ _) rfl rfl (by first | exact ld_blk hr rfl | exact ld_blk hn rfl | exact hr)) ?_
    refine xp_pure (i := 5) rfl (by kernel_rfl) (by kernel_rfl) rfl rfl rfl (pv_move (v := .pointer _) rfl rfl) ?_
    refine xp_pure (i := 6) rfl (by kernel_rfl) (by kernel_rfl) rfl rfl rfl (pv_nilCheck_p rfl rfl) ?_
    refine xp_pure (i := 7) rfl (by kernel_rfl) (by kernel_rfl) rfl rfl rfl (pv_fieldAddr rfl rfl) ?_
    refine xp_light (i := 8) rfl (by kernel_rfl) (by kernel_rfl) rfl rfl rfl (lv_load (v := .int _ _) rfl rfl (by first | exact ld_blk hr rfl | exact ld_blk hn rfl | exact hr)) ?_
    refine xp_pure (i := 9) rfl (by kernel_rfl) (by kernel_rfl) rfl rfl rfl (pv_add rfl rfl rfl (fit_i64 (by omega))) ?_
    refine xp_pure (i := 10) rfl (by kernel_rfl) (by kernel_rfl) rfl rfl rfl (pv_nilCheck_p rfl rfl) ?_
    refine xp_pure (i := 11) rfl (by kernel_rfl) (by kernel_rfl) rfl rfl rfl (pv_fieldAddr rfl rfl) ?_
    refine xp_heavy (i := 12) (by kernel_rfl) ?_
    refine xph_store rfl rfl rfl (hv_store (vs := [.int _ _]) rfl rfl rfl (by first | exact ld_blk hr rfl | exact ld_blk hn rfl | exact hr) rfl (Nat.le_of_ble_eq_true rfl) rfl) (pd (by kernel_rfl) (pk (by kernel_rfl) (pk (by kernel_rfl) pn))) ?_
    rintro v2_12 H2_12 ⟨hU2_12, hZ2_12⟩
    have hr := hU2_12.blk
    have hn := hn.but hU2_12.but hne
    have hT := hU2_12
    refine ⟨(okc (lv_load (v := .int _ _) rfl rfl (by first | exact ld_blk hr rfl | exact ld_blk hn rfl | exact hr)) (okc (lv_load (v := .int _ _) rfl rfl (by first | exact ld_blk hr rfl | exact ld_blk hn rfl | exact hr)) okn)), ?_⟩
    refine xp_pure (i := 13) rfl (by kernel_rfl) (by kernel_rfl) rfl rfl rfl (pv_nilCheck_p rfl rfl) ?_
    refine xp_pure (i := 14) rfl (by kernel_rfl) (by kernel_rfl) rfl rfl rfl (pv_fieldAddr rfl rfl) ?_
    refine xp_heavy (i := 15) (by kernel_rfl) ?_
    refine xph_store rfl rfl rfl (hv_store (vs := [.int _ _]) rfl rfl rfl (by first | exact ld_blk hr rfl | exact ld_blk hn rfl | exact hr) rfl (Nat.le_of_ble_eq_true rfl) rfl) (pk (by kernel_rfl) (pd (by kernel_rfl) pn)) ?_
    rintro v2_15 H2_15 ⟨hU2_15, hZ2_15⟩
    have hr := hU2_15.blk
    have hn := hn.but hU2_15.but hne
    have hT := hT.trans' hU2_15
    refine ⟨(okc (lv_load (v := .int _ _) rfl rfl (by first | exact ld_blk hr rfl | exact ld_blk hn rfl | exact hr)) okn), ?_⟩
    refine xp_pure (i := 16) rfl (by kernel_rfl) (by kernel_rfl) rfl rfl rfl (pv_nilCheck_p rfl rfl) ?_
    refine xp_pure (i := 17) rfl (by kernel_rfl) (by kernel_rfl) rfl rfl rfl (pv_fieldAddr rfl rfl) ?_
    refine xp_heavy (i := 18) (by kernel_rfl) ?_
    refine xph_store rfl rfl rfl (hv_store (vs := [.int _ _]) rfl rfl rfl (by first | exact ld_blk hr rfl | exact ld_blk hn rfl | exact hr) rfl (Nat.le_of_ble_eq_true rfl) rfl) (pd (by kernel_rfl) pn) ?_
    rintro v2_18 H2_18 ⟨hU2_18, hZ2_18⟩
    have hr := hU2_18.blk
    have hn := hn.but hU2_18.but hne
    have hT := hT.trans' hU2_18
    refine ⟨okn, ?_⟩
    refine xp_done (by kernel_rfl) ?_
    refine xthen_normal ?_
    refine xc_seq ?_
    refine xc_region ?_
    refine xl_pure rfl rfl rfl (pv_move (v := .bool _) rfl rfl) ?_
    refine xl_pure rfl rfl rfl (pv_assign (v := .bool _) rfl rfl) ?_
    refine xl_nil ?_
    refine xthen_normal ?_
    refine xc_ret ?_
    refine fin_ret (res1 (v := .bool _) rfl rfl) ?_
    first
      | exact ⟨bv (decide_eq_true (by omega)).symm, hT⟩
      | exact ⟨bv (decide_eq_false (by omega)).symm, hT⟩
  · skip
    refine xl_pure rfl rfl rfl (pv_assign (v := .bool _) rfl rfl) ?_
    refine xl_nil ?_
    refine xthen_normal ?_
    refine xc_seq ?_
    refine xp_start rfl (by repeat (first | with_reducible exact np_fin | with_reducible refine np_then ?_ | with_reducible refine np_block ?_)) (by kernel_rfl) ?_
    refine xp_pure (i := 0) rfl (by kernel_rfl) (by kernel_rfl) rfl rfl rfl (pv_move (v := .pointer _) rfl rfl) ?_
    refine xp_pure (i := 1) rfl (by kernel_rfl) (by kernel_rfl) rfl rfl rfl (pv_move (v := .pointer _) rfl rfl) ?_
    refine xp_pure (i := 2) rfl (by kernel_rfl) (by kernel_rfl) rfl rfl rfl (pv_move (v := .pointer _) rfl rfl) ?_
    refine xp_light (i := 3) rfl (by kernel_rfl) (by kernel_rfl) rfl rfl rfl (lv_load (v := .int _ _) rfl rfl (by first | exact ld_blk hr rfl | exact ld_blk hn rfl | exact hr)) ?_
    refine xp_light (i := 4) rfl (by kernel_rfl) (by kernel_rfl) rfl rfl rfl (lv_load (v := .int _ _) rfl rfl (by first | exact ld_blk hr rfl | exact ld_blk hn rfl | exact hr)) ?_
    refine xp_pure (i := 5) rfl (by kernel_rfl) (by kernel_rfl) rfl rfl rfl (pv_move (v := .pointer _) rfl rfl) ?_
    refine xp_pure (i := 6) rfl (by kernel_rfl) (by kernel_rfl) rfl rfl rfl (pv_nilCheck_p rfl rfl) ?_
    refine xp_pure (i := 7) rfl (by kernel_rfl) (by kernel_rfl) rfl rfl rfl (pv_fieldAddr rfl rfl) ?_
    refine xp_light (i := 8) rfl (by kernel_rfl) (by kernel_rfl) rfl rfl rfl (lv_load (v := .int _ _) rfl rfl (by first | exact ld_blk hr rfl | exact ld_blk hn rfl | exact hr)) ?_
    refine xp_pure (i := 9) rfl (by kernel_rfl) (by kernel_rfl) rfl rfl rfl (pv_add rfl rfl rfl (fit_i64 (by omega))) ?_
    refine xp_pure (i := 10) rfl (by kernel_rfl) (by kernel_rfl) rfl rfl rfl (pv_nilCheck_p rfl rfl) ?_
    refine xp_pure (i := 11) rfl (by kernel_rfl) (by kernel_rfl) rfl rfl rfl (pv_fieldAddr rfl rfl) ?_
    refine xp_heavy (i := 12) (by kernel_rfl) ?_
    refine xph_store rfl rfl rfl (hv_store (vs := [.int _ _]) rfl rfl rfl (by first | exact ld_blk hr rfl | exact ld_blk hn rfl | exact hr) rfl (Nat.le_of_ble_eq_true rfl) rfl) (pd (by kernel_rfl) (pk (by kernel_rfl) (pk (by kernel_rfl) pn))) ?_
    rintro v2_12 H2_12 ⟨hU2_12, hZ2_12⟩
    have hr := hU2_12.blk
    have hn := hn.but hU2_12.but hne
    have hT := hU2_12
    refine ⟨(okc (lv_load (v := .int _ _) rfl rfl (by first | exact ld_blk hr rfl | exact ld_blk hn rfl | exact hr)) (okc (lv_load (v := .int _ _) rfl rfl (by first | exact ld_blk hr rfl | exact ld_blk hn rfl | exact hr)) okn)), ?_⟩
    refine xp_pure (i := 13) rfl (by kernel_rfl) (by kernel_rfl) rfl rfl rfl (pv_nilCheck_p rfl rfl) ?_
    refine xp_pure (i := 14) rfl (by kernel_rfl) (by kernel_rfl) rfl rfl rfl (pv_fieldAddr rfl rfl) ?_
    refine xp_heavy (i := 15) (by kernel_rfl) ?_
    refine xph_store rfl rfl rfl (hv_store (vs := [.int _ _]) rfl rfl rfl (by first | exact ld_blk hr rfl | exact ld_blk hn rfl | exact hr) rfl (Nat.le_of_ble_eq_true rfl) rfl) (pk (by kernel_rfl) (pd (by kernel_rfl) pn)) ?_
    rintro v2_15 H2_15 ⟨hU2_15, hZ2_15⟩
    have hr := hU2_15.blk
    have hn := hn.but hU2_15.but hne
    have hT := hT.trans' hU2_15
    refine ⟨(okc (lv_load (v := .int _ _) rfl rfl (by first | exact ld_blk hr rfl | exact ld_blk hn rfl | exact hr)) okn), ?_⟩
    refine xp_pure (i := 16) rfl (by kernel_rfl) (by kernel_rfl) rfl rfl rfl (pv_nilCheck_p rfl rfl) ?_
    refine xp_pure (i := 17) rfl (by kernel_rfl) (by kernel_rfl) rfl rfl rfl (pv_fieldAddr rfl rfl) ?_
    refine xp_heavy (i := 18) (by kernel_rfl) ?_
    refine xph_store rfl rfl rfl (hv_store (vs := [.int _ _]) rfl rfl rfl (by first | exact ld_blk hr rfl | exact ld_blk hn rfl | exact hr) rfl (Nat.le_of_ble_eq_true rfl) rfl) (pd (by kernel_rfl) pn) ?_
    rintro v2_18 H2_18 ⟨hU2_18, hZ2_18⟩
    have hr := hU2_18.blk
    have hn := hn.but hU2_18.but hne
    have hT := hT.trans' hU2_18
    refine ⟨okn, ?_⟩
    refine xp_done (by kernel_rfl) ?_
    refine xthen_normal ?_
    refine xc_seq ?_
    refine xc_region ?_
    refine xl_pure rfl rfl rfl (pv_move (v := .bool _) rfl rfl) ?_
    refine xl_pure rfl rfl rfl (pv_assign (v := .bool _) rfl rfl) ?_
    refine xl_nil ?_
    refine xthen_normal ?_
    refine xc_ret ?_
    refine fin_ret (res1 (v := .bool _) rfl rfl) ?_
    first
      | exact ⟨bv (decide_eq_true (by omega)).symm, hT⟩
      | exact ⟨bv (decide_eq_false (by omega)).symm, hT⟩

theorem c46 {O : Outer} {H : Heap} {b bn : Nat} (j : J) (a : Option Addr) (c : Nat) (now : Int) (hg : Good j) (hnow : 0 ≤ now ∧ now ≤ 1099511627776) (hr : Blk H b (jcs j a c) 26) (hn : Blk H bn [.int .i64 now] 3) (hne : bn ≠ b) :
    FnC Try.prog 46 #[.pointer (some ⟨b, 0, none⟩), .pointer (some ⟨bn, 0, none⟩)] O H (fun v H' => v = .bool (actB j 2 now).1 ∧ Upd H H' b (jcs (actB j 2 now).2 a c) 26) := by
  have hst : Stands j := hg.2.2.2.2
  have hsx : Six j := hg.1
  unfold Stands at hst
  unfold Six at hsx
  refine fn_enter (A := [.pointer (some ⟨b, 0, none⟩), .pointer (some ⟨bn, 0, none⟩)]) Try.func46 rfl rfl ?_
  refine xc_seq ?_
  refine xc_region ?_
  refine xl_pure rfl rfl rfl (pv_assign (v := .bool _) rfl rfl) ?_
  refine xl_nil ?_
  refine xthen_normal ?_
  refine xc_seq ?_
  refine xp_start rfl (by repeat (first | with_reducible exact np_fin | with_reducible refine np_then ?_ | with_reducible refine np_block ?_)) (by kernel_rfl) ?_
  refine xp_pure (i := 0) rfl (by kernel_rfl) (by kernel_rfl) rfl rfl rfl (pv_move (v := .pointer _) rfl rfl) ?_
  refine xp_pure (i := 1) rfl (by kernel_rfl) (by kernel_rfl) rfl rfl rfl (pv_nilCheck_p rfl rfl) ?_
  refine xp_pure (i := 2) rfl (by kernel_rfl) (by kernel_rfl) rfl rfl rfl (pv_fieldAddr rfl rfl) ?_
  refine xp_light (i := 3) rfl (by kernel_rfl) (by kernel_rfl) rfl rfl rfl (lv_load (v := .int _ _) rfl rfl (by first | exact ld_blk hr rfl | exact ld_blk hn rfl | exact hr)) ?_
  refine xp_dec (i := 4) rfl (by kernel_rfl) (by kernel_rfl) rfl rfl rfl (pv_eql rfl rfl rfl) (fun h1_4 => ?_) (fun h1_4 => ?_)
  · skip
    refine xp_pure (i := 5) rfl (by kernel_rfl) (by kernel_rfl) rfl rfl rfl (pv_move (v := .bool _) rfl rfl) ?_
    refine xp_light (i := 6) rfl (by kernel_rfl) (by kernel_rfl) rfl rfl rfl (lv_load (v := .int _ _) rfl rfl (by first | exact ld_blk hr rfl | exact ld_blk hn rfl | exact hr)) ?_
    refine xp_pure (i := 7) rfl (by kernel_rfl) (by kernel_rfl) rfl rfl rfl (pv_move (v := .pointer _) rfl rfl) ?_
    refine xp_pure (i := 8) rfl (by kernel_rfl) (by kernel_rfl) rfl rfl rfl (pv_nilCheck_p rfl rfl) ?_
    refine xp_pure (i := 9) rfl (by kernel_rfl) (by kernel_rfl) rfl rfl rfl (pv_fieldAddr rfl rfl) ?_
    refine xp_light (i := 10) rfl (by kernel_rfl) (by kernel_rfl) rfl rfl rfl (lv_load (v := .int _ _) rfl rfl (by first | exact ld_blk hr rfl | exact ld_blk hn rfl | exact hr)) ?_
    refine xp_pure (i := 11) rfl (by kernel_rfl) (by kernel_rfl) rfl rfl rfl (pv_move (v := .pointer _) rfl rfl) ?_
    refine xp_pure (i := 12) rfl (by kernel_rfl) (by kernel_rfl) rfl rfl rfl (pv_nilCheck_p rfl rfl) ?_
    refine xp_pure (i := 13) rfl (by kernel_rfl) (by kernel_rfl) rfl rfl rfl (pv_fieldAddr rfl rfl) ?_
    refine xp_light (i := 14) rfl (by kernel_rfl) (by kernel_rfl) rfl rfl rfl (lv_load (v := .int _ _) rfl rfl (by first | exact ld_blk hr rfl | exact ld_blk hn rfl | exact hr)) ?_
    refine xp_pure (i := 15) rfl (by kernel_rfl) (by kernel_rfl) rfl rfl rfl (pv_sub rfl rfl rfl (fit_i64 (by omega))) ?_
    refine xp_heavy (i := 16) (by kernel_rfl) ?_
    refine xph_val rfl rfl rfl rfl (hv_call (g := 28) rfl rfl (c28 _ _ _) rfl) (pk (by kernel_rfl) (pd (by kernel_rfl) (pd (by kernel_rfl) (pk (by kernel_rfl) pn)))) ?_
    rintro v1_16 H1_16 ⟨r1_16, rfl, hb1_16, rfl⟩
    refine ⟨(okc (lv_load (v := .int _ _) rfl rfl (by first | exact ld_blk hr rfl | exact ld_blk hn rfl | exact hr)) (okc (lv_load (v := .int _ _) rfl rfl (by first | exact ld_blk hr rfl | exact ld_blk hn rfl | exact hr)) okn)), ?_⟩
    cases r1_16
    · skip
      replace hb1_16 := mt hb1_16.2 (by decide)
      refine xp_pure (i := 17) rfl (by kernel_rfl) (by kernel_rfl) rfl rfl rfl (pv_pick_t (v := .bool _) rfl rfl rfl) ?_
      refine xp_pure (i := 18) rfl (by kernel_rfl) (by kernel_rfl) rfl rfl rfl (pv_assign (v := .bool _) rfl rfl) ?_
      refine xp_done (by kernel_rfl) ?_
      refine xthen_normal ?_
      refine xc_seq ?_
      refine xp_start rfl (by repeat (first | with_reducible exact np_fin | with_reducible refine np_then ?_ | with_reducible refine np_block ?_)) (by kernel_rfl) ?_
      refine xp_pure (i := 0) rfl (by kernel_rfl) (by kernel_rfl) rfl rfl rfl (pv_move (v := .pointer _) rfl rfl) ?_
      refine xp_pure (i := 1) rfl (by kernel_rfl) (by kernel_rfl) rfl rfl rfl (pv_move (v := .pointer _) rfl rfl) ?_
      refine xp_pure (i := 2) rfl (by kernel_rfl) (by kernel_rfl) rfl rfl rfl (pv_move (v := .pointer _) rfl rfl) ?_
      refine xp_pure (i := 3) rfl (by kernel_rfl) (by kernel_rfl) rfl rfl rfl (pv_move (v := .pointer _) rfl rfl) ?_
      refine xp_pure (i := 4) rfl (by kernel_rfl) (by kernel_rfl) rfl rfl rfl (pv_move (v := .pointer _) rfl rfl) ?_
      refine xp_pure (i := 5) rfl (by kernel_rfl) (by kernel_rfl) rfl rfl rfl (pv_nilCheck_p rfl rfl) ?_
      refine xp_pure (i := 6) rfl (by kernel_rfl) (by kernel_rfl) rfl rfl rfl (pv_fieldAddr rfl rfl) ?_
      refine xp_light (i := 7) rfl (by kernel_rfl) (by kernel_rfl) rfl rfl rfl (lv_load (v := .int _ _) rfl rfl (by first | exact ld_blk hr rfl | exact ld_blk hn rfl | exact hr)) ?_
      refine xp_light (i := 8) rfl (by kernel_rfl) (by kernel_rfl) rfl rfl rfl (lv_load (v := .int _ _) rfl rfl (by first | exact ld_blk hr rfl | exact ld_blk hn rfl | exact hr)) ?_
      refine xp_pure (i := 9) rfl (by kernel_rfl) (by kernel_rfl) rfl rfl rfl (pv_sub rfl rfl rfl (fit_i64 (by omega))) ?_
      refine xp_pure (i := 10) rfl (by kernel_rfl) (by kernel_rfl) rfl rfl rfl (pv_nilCheck_p rfl rfl) ?_
      refine xp_pure (i := 11) rfl (by kernel_rfl) (by kernel_rfl) rfl rfl rfl (pv_fieldAddr rfl rfl) ?_
      refine xp_heavy (i := 12) (by kernel_rfl) ?_
      refine xph_store rfl rfl rfl (hv_store (vs := [.int _ _]) rfl rfl rfl (by first | exact ld_blk hr rfl | exact ld_blk hn rfl | exact hr) rfl (Nat.le_of_ble_eq_true rfl) rfl) (pk (by kernel_rfl) (pd (by kernel_rfl) pn)) ?_
      rintro v2_12 H2_12 ⟨hU2_12, hZ2_12⟩
      have hr := hU2_12.blk
      have hn := hn.but hU2_12.but hne
      have hT := hU2_12
      refine ⟨(okc (lv_load (v := .int _ _) rfl rfl (by first | exact ld_blk hr rfl | exact ld_blk hn rfl | exact hr)) okn), ?_⟩
      refine xp_pure (i := 13) rfl (by kernel_rfl) (by kernel_rfl) rfl rfl rfl (pv_nilCheck_p rfl rfl) ?_
      refine xp_pure (i := 14) rfl (by kernel_rfl) (by kernel_rfl) rfl rfl rfl (pv_fieldAddr rfl rfl) ?_
      refine xp_heavy (i := 15) (by kernel_rfl) ?_
      refine xph_store rfl rfl rfl (hv_store (vs := [.int _ _]) rfl rfl rfl (by first | exact ld_blk hr rfl | exact ld_blk hn rfl | exact hr) rfl (Nat.le_of_ble_eq_true rfl) rfl) (pd (by kernel_rfl) pn) ?_
      rintro v2_15 H2_15 ⟨hU2_15, hZ2_15⟩
      have hr := hU2_15.blk
      have hn := hn.but hU2_15.but hne
      have hT := hT.trans' hU2_15
      refine ⟨okn, ?_⟩
      refine xp_pure (i := 16) rfl (by kernel_rfl) (by kernel_rfl) rfl rfl rfl (pv_nilCheck_p rfl rfl) ?_
      refine xp_pure (i := 17) rfl (by kernel_rfl) (by kernel_rfl) rfl rfl rfl (pv_fieldAddr rfl rfl) ?_
      refine xp_heavy (i := 18) (by kernel_rfl) ?_
      refine xph_store rfl rfl rfl (hv_store (vs := [.int _ _]) rfl rfl rfl (by first | exact ld_blk hr rfl | exact ld_blk hn rfl | exact hr) rfl (Nat.le_of_ble_eq_true rfl) rfl) pn ?_
      rintro v2_18 H2_18 ⟨hU2_18, hZ2_18⟩
      have hr := hU2_18.blk
      have hn := hn.but hU2_18.but hne
      have hT := hT.trans' hU2_18
      refine ⟨okn, ?_⟩
      refine xp_pure (i := 19) rfl (by kernel_rfl) (by kernel_rfl) rfl rfl rfl (pv_nilCheck_p rfl rfl) ?_
      refine xp_pure (i := 20) rfl (by kernel_rfl) (by kernel_rfl) rfl rfl rfl (pv_fieldAddr rfl rfl) ?_
      refine xp_heavy (i := 21) (by kernel_rfl) ?_
      refine xph_store rfl rfl rfl (hv_store (vs := [.int _ _]) rfl rfl rfl (by first | exact ld_blk hr rfl | exact ld_blk hn rfl | exact hr) rfl (Nat.le_of_ble_eq_true rfl) rfl) pn ?_
      rintro v2_21 H2_21 ⟨hU2_21, hZ2_21⟩
      have hr := hU2_21.blk
      have hn := hn.but hU2_21.but hne
      have hT := hT.trans' hU2_21
      refine ⟨okn, ?_⟩
      refine xp_done (by kernel_rfl) ?_
      refine xthen_normal ?_
      refine xc_seq ?_
      refine xc_region ?_
      refine xl_pure rfl rfl rfl (pv_move (v := .bool _) rfl rfl) ?_
      refine xl_pure rfl rfl rfl (pv_assign (v := .bool _) rfl rfl) ?_
      refine xl_nil ?_
      refine xthen_normal ?_
      refine xc_ret ?_
      refine fin_ret (res1 (v := .bool _) rfl rfl) ?_
      first
        | exact ⟨bv (decide_eq_true (by omega)).symm, hT⟩
        | exact ⟨bv (decide_eq_false (by omega)).symm, hT⟩
    · skip
      replace hb1_16 := hb1_16.1 rfl
      refine xp_pure (i := 17) rfl (by kernel_rfl) (by kernel_rfl) rfl rfl rfl (pv_pick_t (v := .bool _) rfl rfl rfl) ?_
      refine xp_pure (i := 18) rfl (by kernel_rfl) (by kernel_rfl) rfl rfl rfl (pv_assign (v := .bool _) rfl rfl) ?_
      refine xp_done (by kernel_rfl) ?_
      refine xthen_normal ?_
      refine xc_seq ?_
      refine xp_start rfl (by repeat (first | with_reducible exact np_fin | with_reducible refine np_then ?_ | with_reducible refine np_block ?_)) (by kernel_rfl) ?_
      refine xp_pure (i := 0) rfl (by kernel_rfl) (by kernel_rfl) rfl rfl rfl (pv_move (v := .pointer _) rfl rfl) ?_
      refine xp_pure (i := 1) rfl (by kernel_rfl) (by kernel_rfl) rfl rfl rfl (pv_move (v := .pointer _) rfl rfl) ?_
      refine xp_pure (i := 2) rfl (by kernel_rfl) (by kernel_rfl) rfl rfl rfl (pv_move (v := .pointer _) rfl rfl) ?_
      refine xp_pure (i := 3) rfl (by kernel_rfl) (by kernel_rfl) rfl rfl rfl (pv_move (v := .pointer _) rfl rfl) ?_
      refine xp_pure (i := 4) rfl (by kernel_rfl) (by kernel_rfl) rfl rfl rfl (pv_move (v := .pointer _) rfl rfl) ?_
      refine xp_pure (i := 5) rfl (by kernel_rfl) (by kernel_rfl) rfl rfl rfl (pv_nilCheck_p rfl rfl) ?_
      refine xp_pure (i := 6) rfl (by kernel_rfl) (by kernel_rfl) rfl rfl rfl (pv_fieldAddr rfl rfl) ?_
      refine xp_light (i := 7) rfl (by kernel_rfl) (by kernel_rfl) rfl rfl rfl (lv_load (v := .int _ _) rfl rfl (by first | exact ld_blk hr rfl | exact ld_blk hn rfl | exact hr)) ?_
      refine xp_light (i := 8) rfl (by kernel_rfl) (by kernel_rfl) rfl rfl rfl (lv_load (v := .int _ _) rfl rfl (by first | exact ld_blk hr rfl | exact ld_blk hn rfl | exact hr)) ?_
      refine xp_pure (i := 9) rfl (by kernel_rfl) (by kernel_rfl) rfl rfl rfl (pv_sub rfl rfl rfl (fit_i64 (by omega))) ?_
      refine xp_pure (i := 10) rfl (by kernel_rfl) (by kernel_rfl) rfl rfl rfl (pv_nilCheck_p rfl rfl) ?_
      refine xp_pure (i := 11) rfl (by kernel_rfl) (by kernel_rfl) rfl rfl rfl (pv_fieldAddr rfl rfl) ?_
      refine xp_heavy (i := 12) (by kernel_rfl) ?_
      refine xph_store rfl rfl rfl (hv_store (vs := [.int _ _]) rfl rfl rfl (by first | exact ld_blk hr rfl | exact ld_blk hn rfl | exact hr) rfl (Nat.le_of_ble_eq_true rfl) rfl) (pk (by kernel_rfl) (pd (by kernel_rfl) pn)) ?_
      rintro v2_12 H2_12 ⟨hU2_12, hZ2_12⟩
      have hr := hU2_12.blk
      have hn := hn.but hU2_12.but hne
      have hT := hU2_12
      refine ⟨(okc (lv_load (v := .int _ _) rfl rfl (by first | exact ld_blk hr rfl | exact ld_blk hn rfl | exact hr)) okn), ?_⟩
      refine xp_pure (i := 13) rfl (by kernel_rfl) (by kernel_rfl) rfl rfl rfl (pv_nilCheck_p rfl rfl) ?_
      refine xp_pure (i := 14) rfl (by kernel_rfl) (by kernel_rfl) rfl rfl rfl (pv_fieldAddr rfl rfl) ?_
      refine xp_heavy (i := 15) (by kernel_rfl) ?_
      refine xph_store rfl rfl rfl (hv_store (vs := [.int _ _]) rfl rfl rfl (by first | exact ld_blk hr rfl | exact ld_blk hn rfl | exact hr) rfl (Nat.le_of_ble_eq_true rfl) rfl) (pd (by kernel_rfl) pn) ?_
      rintro v2_15 H2_15 ⟨hU2_15, hZ2_15⟩
      have hr := hU2_15.blk
      have hn := hn.but hU2_15.but hne
      have hT := hT.trans' hU2_15
      refine ⟨okn, ?_⟩
      refine xp_pure (i := 16) rfl (by kernel_rfl) (by kernel_rfl) rfl rfl rfl (pv_nilCheck_p rfl rfl) ?_
      refine xp_pure (i := 17) rfl (by kernel_rfl) (by kernel_rfl) rfl rfl rfl (pv_fieldAddr rfl rfl) ?_
      refine xp_heavy (i := 18) (by kernel_rfl) ?_
      refine xph_store rfl rfl rfl (hv_store (vs := [.int _ _]) rfl rfl rfl (by first | exact ld_blk hr rfl | exact ld_blk hn rfl | exact hr) rfl (Nat.le_of_ble_eq_true rfl) rfl) pn ?_
      rintro v2_18 H2_18 ⟨hU2_18, hZ2_18⟩
      have hr := hU2_18.blk
      have hn := hn.but hU2_18.but hne
      have hT := hT.trans' hU2_18
      refine ⟨okn, ?_⟩
      refine xp_pure (i := 19) rfl (by kernel_rfl) (by kernel_rfl) rfl rfl rfl (pv_nilCheck_p rfl rfl) ?_
      refine xp_pure (i := 20) rfl (by kernel_rfl) (by kernel_rfl) rfl rfl rfl (pv_fieldAddr rfl rfl) ?_
      refine xp_heavy (i := 21) (by kernel_rfl) ?_
      refine xph_store rfl rfl rfl (hv_store (vs := [.int _ _]) rfl rfl rfl (by first | exact ld_blk hr rfl | exact ld_blk hn rfl | exact hr) rfl (Nat.le_of_ble_eq_true rfl) rfl) pn ?_
      rintro v2_21 H2_21 ⟨hU2_21, hZ2_21⟩
      have hr := hU2_21.blk
      have hn := hn.but hU2_21.but hne
      have hT := hT.trans' hU2_21
      refine ⟨okn, ?_⟩
      refine xp_done (by kernel_rfl) ?_
      refine xthen_normal ?_
      refine xc_seq ?_
      refine xc_region ?_
      refine xl_pure rfl rfl rfl (pv_move (v := .bool _) rfl rfl) ?_
      refine xl_pure rfl rfl rfl (pv_assign (v := .bool _) rfl rfl) ?_
      refine xl_nil ?_
      refine xthen_normal ?_
      refine xc_ret ?_
      refine fin_ret (res1 (v := .bool _) rfl rfl) ?_
      first
        | exact ⟨bv (decide_eq_true (by omega)).symm, hT⟩
        | exact ⟨bv (decide_eq_false (by omega)).symm, hT⟩
  · skip
    refine xp_pure (i := 5) rfl (by kernel_rfl) (by kernel_rfl) rfl rfl rfl (pv_move (v := .bool _) rfl rfl) ?_
    refine xp_skip (i := 6) rfl (by kernel_rfl) (by kernel_rfl) rfl rfl rfl ?_
    refine xp_skip (i := 7) rfl (by kernel_rfl) (by kernel_rfl) rfl rfl rfl ?_
    refine xp_skip (i := 8) rfl (by kernel_rfl) (by kernel_rfl) rfl rfl rfl ?_
    refine xp_skip (i := 9) rfl (by kernel_rfl) (by kernel_rfl) rfl rfl rfl ?_
    refine xp_skip (i := 10) rfl (by kernel_rfl) (by kernel_rfl) rfl rfl rfl ?_
    refine xp_skip (i := 11) rfl (by kernel_rfl) (by kernel_rfl) rfl rfl rfl ?_
    refine xp_skip (i := 12) rfl (by kernel_rfl) (by kernel_rfl) rfl rfl rfl ?_
    refine xp_skip (i := 13) rfl (by kernel_rfl) (by kernel_rfl) rfl rfl rfl ?_
    refine xp_skip (i := 14) rfl (by kernel_rfl) (by kernel_rfl) rfl rfl rfl ?_
    refine xp_skip (i := 15) rfl (by kernel_rfl) (by kernel_rfl) rfl rfl rfl ?_
    refine xp_skip (i := 16) rfl (by kernel_rfl) (by kernel_rfl) rfl rfl rfl ?_
    refine xp_pure (i := 17) rfl (by kernel_rfl) (by kernel_rfl) rfl rfl rfl (pv_pick_f (v := .bool _) rfl rfl rfl) ?_
    refine xp_pure (i := 18) rfl (by kernel_rfl) (by kernel_rfl) rfl rfl rfl (pv_assign (v := .bool _) rfl rfl) ?_
    refine xp_done (by kernel_rfl) ?_
    refine xthen_normal ?_
    refine xc_seq ?_
    refine xp_start rfl (by repeat (first | with_reducible exact np_fin | with_reducible refine np_then ?_ | with_reducible refine np_block ?_)) (by kernel_rfl) ?_
    refine xp_pure (i := 0) rfl (by kernel_rfl) (by kernel_rfl) rfl rfl rfl (pv_move (v := .pointer _) rfl rfl) ?_
    refine xp_pure (i := 1) rfl (by kernel_rfl) (by kernel_rfl) rfl rfl rfl (pv_move (v := .pointer _) rfl rfl) ?_
    refine xp_pure (i := 2) rfl (by kernel_rfl) (by kernel_rfl) rfl rfl rfl (pv_move (v := .pointer _) rfl rfl) ?_
    refine xp_pure (i := 3) rfl (by kernel_rfl) (by kernel_rfl) rfl rfl rfl (pv_move (v := .pointer _) rfl rfl) ?_
    refine xp_pure (i := 4) rfl (by kernel_rfl) (by kernel_rfl) rfl rfl rfl (pv_move (v := .pointer _) rfl rfl) ?_
    refine xp_pure (i := 5) rfl (by kernel_rfl) (by kernel_rfl) rfl rfl rfl (pv_nilCheck_p rfl rfl) ?_
    refine xp_pure (i := 6) rfl (by kernel_rfl) (by kernel_rfl) rfl rfl rfl (pv_fieldAddr rfl rfl) ?_
    refine xp_light (i := 7) rfl (by kernel_rfl) (by kernel_rfl) rfl rfl rfl (lv_load (v := .int _ _) rfl rfl (by first | exact ld_blk hr rfl | exact ld_blk hn rfl | exact hr)) ?_
    refine xp_light (i := 8) rfl (by kernel_rfl) (by kernel_rfl) rfl rfl rfl (lv_load (v := .int _ _) rfl rfl (by first | exact ld_blk hr rfl | exact ld_blk hn rfl | exact hr)) ?_
    refine xp_pure (i := 9) rfl (by kernel_rfl) (by kernel_rfl) rfl rfl rfl (pv_sub rfl rfl rfl (fit_i64 (by omega))) ?_
    refine xp_pure (i := 10) rfl (by kernel_rfl) (by kernel_rfl) rfl rfl rfl (pv_nilCheck_p rfl rfl) ?_
    refine xp_pure (i := 11) rfl (by kernel_rfl) (by kernel_rfl) rfl rfl rfl (pv_fieldAddr rfl rfl) ?_
    refine xp_heavy (i := 12) (by kernel_rfl) ?_
    refine xph_store rfl rfl rfl (hv_store (vs := [.int _ _]) rfl rfl rfl (by first | exact ld_blk hr rfl | exact ld_blk hn rfl | exact hr) rfl (Nat.le_of_ble_eq_true rfl) rfl) (pk (by kernel_rfl) (pd (by kernel_rfl) pn)) ?_
    rintro v2_12 H2_12 ⟨hU2_12, hZ2_12⟩
    have hr := hU2_12.blk
    have hn := hn.but hU2_12.but hne
    have hT := hU2_12
    refine ⟨(okc (lv_load (v := .int _ _) rfl rfl (by first | exact ld_blk hr rfl | exact ld_blk hn rfl | exact hr)) okn), ?_⟩
    refine xp_pure (i := 13) rfl (by kernel_rfl) (by kernel_rfl) rfl rfl rfl (pv_nilCheck_p rfl rfl) ?_
    refine xp_pure (i := 14) rfl (by kernel_rfl) (by kernel_rfl) rfl rfl rfl (pv_fieldAddr rfl rfl) ?_
    refine xp_heavy (i := 15) (by kernel_rfl) ?_
    refine xph_store rfl rfl rfl (hv_store (vs := [.int _ _]) rfl rfl rfl (by first | exact ld_blk hr rfl | exact ld_blk hn rfl | exact hr) rfl (Nat.le_of_ble_eq_true rfl) rfl) (pd (by kernel_rfl) pn) ?_
    rintro v2_15 H2_15 ⟨hU2_15, hZ2_15⟩
    have hr := hU2_15.blk
    have hn := hn.but hU2_15.but hne
    have hT := hT.trans' hU2_15
    refine ⟨okn, ?_⟩
    refine xp_pure (i := 16) rfl (by kernel_rfl) (by kernel_rfl) rfl rfl rfl (pv_nilCheck_p rfl rfl) ?_
    refine xp_pure (i := 17) rfl (by kernel_rfl) (by kernel_rfl) rfl rfl rfl (pv_fieldAddr rfl rfl) ?_
    refine xp_heavy (i := 18) (by kernel_rfl) ?_
    refine xph_store rfl rfl rfl (hv_store (vs := [.int _ _]) rfl rfl rfl (by first | exact ld_blk hr rfl | exact ld_blk hn rfl | exact hr) rfl (Nat.le_of_ble_eq_true rfl) rfl) pn ?_
    rintro v2_18 H2_18 ⟨hU2_18, hZ2_18⟩
    have hr := hU2_18.blk
    have hn := hn.but hU2_18.but hne
    have hT := hT.trans' hU2_18
    refine ⟨okn, ?_⟩
    refine xp_pure (i := 19) rfl (by kernel_rfl) (by kernel_rfl) rfl rfl rfl (pv_nilCheck_p rfl rfl) ?_
    refine xp_pure (i := 20) rfl (by kernel_rfl) (by kernel_rfl) rfl rfl rfl (pv_fieldAddr rfl rfl) ?_
    refine xp_heavy (i := 21) (by kernel_rfl) ?_
    refine xph_store rfl rfl rfl (hv_store (vs := [.int _ _]) rfl rfl rfl (by first | exact ld_blk hr rfl | exact ld_blk hn rfl | exact hr) rfl (Nat.le_of_ble_eq_true rfl) rfl) pn ?_
    rintro v2_21 H2_21 ⟨hU2_21, hZ2_21⟩
    have hr := hU2_21.blk
    have hn := hn.but hU2_21.but hne
    have hT := hT.trans' hU2_21
    refine ⟨okn, ?_⟩
    refine xp_done (by kernel_rfl) ?_
    refine xthen_normal ?_
    refine xc_seq ?_
    refine xc_region ?_
    refine xl_pure rfl rfl rfl (pv_move (v := .bool _) rfl rfl) ?_
    refine xl_pure rfl rfl rfl (pv_assign (v := .bool _) rfl rfl) ?_
    refine xl_nil ?_
    refine xthen_normal ?_
    refine xc_ret ?_
    refine fin_ret (res1 (v := .bool _) rfl rfl) ?_
    first
      | exact ⟨bv (decide_eq_true (by omega)).symm, hT⟩
      | exact ⟨bv (decide_eq_false (by omega)).symm, hT⟩

theorem c47 {O : Outer} {H : Heap} {b : Nat} (j : J) (a : Option Addr) (c : Nat) (now : Int) (hg : Good j) (_hnow : 0 ≤ now ∧ now ≤ 1099511627776) (hr : Blk H b (jcs j a c) 26) :
    FnC Try.prog 47 #[.pointer (some ⟨b, 0, none⟩)] O H (fun v H' => v = .bool (actB j 3 0).1 ∧ Upd H H' b (jcs (actB j 3 0).2 a c) 26) := by
  have hst : Stands j := hg.2.2.2.2
  have hsx : Six j := hg.1
  unfold Stands at hst
  unfold Six at hsx
  refine fn_enter (A := [.pointer (some ⟨b, 0, none⟩)]) Try.func47 rfl rfl ?_
  refine xc_seq ?_
  refine xc_region ?_
  refine xl_pure rfl rfl rfl (pv_assign (v := .bool _) rfl rfl) ?_
  refine xl_nil ?_
  refine xthen_normal ?_
  refine xc_seq ?_
  refine xc_region ?_
  refine xl_pure rfl rfl rfl (pv_move (v := .pointer _) rfl rfl) ?_
  refine xl_pure rfl rfl rfl (pv_nilCheck_p rfl rfl) ?_
  refine xl_pure rfl rfl rfl (pv_fieldAddr rfl rfl) ?_
  refine xl_light rfl rfl rfl (lv_load (v := .int _ _) rfl rfl (by first | exact ld_blk hr rfl | exact hr)) ?_
  refine xl_dec rfl rfl rfl (pv_eql rfl rfl rfl) (fun h1_4 => ?_) (fun h1_4 => ?_)
  · skip
    refine xl_pure rfl rfl rfl (pv_assign (v := .bool _) rfl rfl) ?_
    refine xl_nil ?_
    refine xthen_normal ?_
    refine xc_seq ?_
    refine xc_region ?_
    refine xl_pure rfl rfl rfl (pv_move (v := .pointer _) rfl rfl) ?_
    refine xl_pure rfl rfl rfl (pv_nilCheck_p rfl rfl) ?_
    refine xl_pure rfl rfl rfl (pv_fieldAddr rfl rfl) ?_
    refine xl_store rfl rfl (hv_store (vs := [.int _ _]) rfl rfl rfl (by first | exact ld_blk hr rfl | exact hr) rfl (Nat.le_of_ble_eq_true rfl) rfl) ?_
    rintro v2_3 H2_3 ⟨hU2_3, hZ2_3⟩
    have hr := hU2_3.blk
    have hT := hU2_3
    refine xl_nil ?_
    refine xthen_normal ?_
    refine xc_seq ?_
    refine xc_region ?_
    refine xl_pure rfl rfl rfl (pv_move (v := .bool _) rfl rfl) ?_
    refine xl_pure rfl rfl rfl (pv_assign (v := .bool _) rfl rfl) ?_
    refine xl_nil ?_
    refine xthen_normal ?_
    refine xc_ret ?_
    refine fin_ret (res1 (v := .bool _) rfl rfl) ?_
    first
      | exact ⟨bv (decide_eq_true (by omega)).symm, hT⟩
      | exact ⟨bv (decide_eq_false (by omega)).symm, hT⟩
  · skip
    refine xl_pure rfl rfl rfl (pv_assign (v := .bool _) rfl rfl) ?_
    refine xl_nil ?_
    refine xthen_normal ?_
    refine xc_seq ?_
    refine xc_region ?_
    refine xl_pure rfl rfl rfl (pv_move (v := .pointer _) rfl rfl) ?_
    refine xl_pure rfl rfl rfl (pv_nilCheck_p rfl rfl) ?_
    refine xl_pure rfl rfl rfl (pv_fieldAddr rfl rfl) ?_
    refine xl_store rfl rfl (hv_store (vs := [.int _ _]) rfl rfl rfl (by first | exact ld_blk hr rfl | exact hr) rfl (Nat.le_of_ble_eq_true rfl) rfl) ?_
    rintro v2_3 H2_3 ⟨hU2_3, hZ2_3⟩
    have hr := hU2_3.blk
    have hT := hU2_3
    refine xl_nil ?_
    refine xthen_normal ?_
    refine xc_seq ?_
    refine xc_region ?_
    refine xl_pure rfl rfl rfl (pv_move (v := .bool _) rfl rfl) ?_
    refine xl_pure rfl rfl rfl (pv_assign (v := .bool _) rfl rfl) ?_
    refine xl_nil ?_
    refine xthen_normal ?_
    refine xc_ret ?_
    refine fin_ret (res1 (v := .bool _) rfl rfl) ?_
    first
      | exact ⟨bv (decide_eq_true (by omega)).symm, hT⟩
      | exact ⟨bv (decide_eq_false (by omega)).symm, hT⟩

theorem c48 {O : Outer} {H : Heap} {b bn : Nat} (j : J) (a : Option Addr) (c : Nat) (now : Int) (hg : Good j) (_hnow : 0 ≤ now ∧ now ≤ 1099511627776) (hr : Blk H b (jcs j a c) 26) (hn : Blk H bn [.int .i64 now] 3) (hne : bn ≠ b) :
    FnC Try.prog 48 #[.pointer (some ⟨b, 0, none⟩), .pointer (some ⟨bn, 0, none⟩)] O H (fun v H' => v = .bool (actB j 4 now).1 ∧ Upd H H' b (jcs (actB j 4 now).2 a c) 26) := by
  have hst : Stands j := hg.2.2.2.2
  have hsx : Six j := hg.1
  unfold Stands at hst
  unfold Six at hsx
  refine fn_enter (A := [.pointer (some ⟨b, 0, none⟩), .pointer (some ⟨bn, 0, none⟩)]) Try.func48 rfl rfl ?_
  refine xc_seq ?_
  refine xc_region ?_
  refine xl_pure rfl rfl rfl (pv_assign (v := .bool _) rfl rfl) ?_
  refine xl_nil ?_
  refine xthen_normal ?_
  refine xc_seq ?_
  refine xp_start rfl (by repeat (first | with_reducible exact np_fin | with_reducible refine np_then ?_ | with_reducible refine np_block ?_)) (by kernel_rfl) ?_
  refine xp_pure (i := 0) rfl (by kernel_rfl) (by kernel_rfl) rfl rfl rfl (pv_move (v := .pointer _) rfl rfl) ?_
  refine xp_pure (i := 1) rfl (by kernel_rfl) (by kernel_rfl) rfl rfl rfl (pv_nilCheck_p rfl rfl) ?_
  refine xp_pure (i := 2) rfl (by kernel_rfl) (by kernel_rfl) rfl rfl rfl (pv_fieldAddr rfl rfl) ?_
  refine xp_light (i := 3) rfl (by kernel_rfl) (by kernel_rfl) rfl rfl rfl (lv_load (v := .int _ _) rfl rfl (by first | exact ld_blk hr rfl | exact ld_blk hn rfl | exact hr)) ?_
  refine xp_dec (i := 4) rfl (by kernel_rfl) (by kernel_rfl) rfl rfl rfl (pv_eql rfl rfl rfl) (fun h1_4 => ?_) (fun h1_4 => ?_)
  · skip
    refine xp_pure (i := 5) rfl (by kernel_rfl) (by kernel_rfl) rfl rfl rfl (pv_move (v := .bool _) rfl rfl) ?_
    refine xp_light (i := 6) rfl (by kernel_rfl) (by kernel_rfl) rfl rfl rfl (lv_load (v := .int _ _) rfl rfl (by first | exact ld_blk hr rfl | exact ld_blk hn rfl | exact hr)) ?_
    refine xp_pure (i := 7) rfl (by kernel_rfl) (by kernel_rfl) rfl rfl rfl (pv_move (v := .pointer _) rfl rfl) ?_
    refine xp_pure (i := 8) rfl (by kernel_rfl) (by kernel_rfl) rfl rfl rfl (pv_nilCheck_p rfl rfl) ?_
    refine xp_pure (i := 9) rfl (by kernel_rfl) (by kernel_rfl) rfl rfl rfl (pv_fieldAddr rfl rfl) ?_
    refine xp_light (i := 10) rfl (by kernel_rfl) (by kernel_rfl) rfl rfl rfl (lv_load (v := .int _ _) rfl rfl (by first | exact ld_blk hr rfl | exact ld_blk hn rfl | exact hr)) ?_
    refine xp_dec (i := 11) rfl (by kernel_rfl) (by kernel_rfl) rfl rfl rfl (pv_geq rfl rfl rfl) (fun h1_11 => ?_) (fun h1_11 => ?_)
    · skip
      refine xp_pure (i := 12) rfl (by kernel_rfl) (by kernel_rfl) rfl rfl rfl (pv_pick_t (v := .bool _) rfl rfl rfl) ?_
      refine xp_pure (i := 13) rfl (by kernel_rfl) (by kernel_rfl) rfl rfl rfl (pv_assign (v := .bool _) rfl rfl) ?_
      refine xp_done (by kernel_rfl) ?_
      refine xthen_normal ?_
      refine xc_seq ?_
      refine xc_region ?_
      refine xl_pure rfl rfl rfl (pv_move (v := .pointer _) rfl rfl) ?_
      refine xl_pure rfl rfl rfl (pv_move (v := .pointer _) rfl rfl) ?_
      refine xl_pure rfl rfl rfl (pv_nilCheck_p rfl rfl) ?_
      refine xl_pure rfl rfl rfl (pv_fieldAddr rfl rfl) ?_
      refine xl_store rfl rfl (hv_store (vs := [.int _ _]) rfl rfl rfl (by first | exact ld_blk hr rfl | exact ld_blk hn rfl | exact hr) rfl (Nat.le_of_ble_eq_true rfl) rfl) ?_
      rintro v2_4 H2_4 ⟨hU2_4, hZ2_4⟩
      have hr := hU2_4.blk
      have hn := hn.but hU2_4.but hne
      have hT := hU2_4
      refine xl_pure rfl rfl rfl (pv_nilCheck_p rfl rfl) ?_
      refine xl_pure rfl rfl rfl (pv_fieldAddr rfl rfl) ?_
      refine xl_store rfl rfl (hv_store (vs := [.int _ _]) rfl rfl rfl (by first | exact ld_blk hr rfl | exact ld_blk hn rfl | exact hr) rfl (Nat.le_of_ble_eq_true rfl) rfl) ?_
      rintro v2_7 H2_7 ⟨hU2_7, hZ2_7⟩
      have hr := hU2_7.blk
      have hn := hn.but hU2_7.but hne
      have hT := hT.trans' hU2_7
      refine xl_nil ?_
      refine xthen_normal ?_
      refine xc_seq ?_
      refine xc_region ?_
      refine xl_pure rfl rfl rfl (pv_move (v := .bool _) rfl rfl) ?_
      refine xl_pure rfl rfl rfl (pv_assign (v := .bool _) rfl rfl) ?_
      refine xl_nil ?_
      refine xthen_normal ?_
      refine xc_ret ?_
      refine fin_ret (res1 (v := .bool _) rfl rfl) ?_
      first
        | exact ⟨bv (decide_eq_true (by omega)).symm, hT⟩
        | exact ⟨bv (decide_eq_false (by omega)).symm, hT⟩
    · skip
      refine xp_pure (i := 12) rfl (by kernel_rfl) (by kernel_rfl) rfl rfl rfl (pv_pick_t (v := .bool _) rfl rfl rfl) ?_
      refine xp_pure (i := 13) rfl (by kernel_rfl) (by kernel_rfl) rfl rfl rfl (pv_assign (v := .bool _) rfl rfl) ?_
      refine xp_done (by kernel_rfl) ?_
      refine xthen_normal ?_
      refine xc_seq ?_
      refine xc_region ?_
      refine xl_pure rfl rfl rfl (pv_move (v := .pointer _) rfl rfl) ?_
      refine xl_pure rfl rfl rfl (pv_move (v := .pointer _) rfl rfl) ?_
      refine xl_pure rfl rfl rfl (pv_nilCheck_p rfl rfl) ?_
      refine xl_pure rfl rfl rfl (pv_fieldAddr rfl rfl) ?_
      refine xl_store rfl rfl (hv_store (vs := [.int _ _]) rfl rfl rfl (by first | exact ld_blk hr rfl | exact ld_blk hn rfl | exact hr) rfl (Nat.le_of_ble_eq_true rfl) rfl) ?_
      rintro v2_4 H2_4 ⟨hU2_4, hZ2_4⟩
      have hr := hU2_4.blk
      have hn := hn.but hU2_4.but hne
      have hT := hU2_4
      refine xl_pure rfl rfl rfl (pv_nilCheck_p rfl rfl) ?_
      refine xl_pure rfl rfl rfl (pv_fieldAddr rfl rfl) ?_
      refine xl_store rfl rfl (hv_store (vs := [.int _ _]) rfl rfl rfl (by first | exact ld_blk hr rfl | exact ld_blk hn rfl | exact hr) rfl (Nat.le_of_ble_eq_true rfl) rfl) ?_
      rintro v2_7 H2_7 ⟨hU2_7, hZ2_7⟩
      have hr := hU2_7.blk
      have hn := hn.but hU2_7.but hne
      have hT := hT.trans' hU2_7
      refine xl_nil ?_
      refine xthen_normal ?_
      refine xc_seq ?_
      refine xc_region ?_
      refine xl_pure rfl rfl rfl (pv_move (v := .bool _) rfl rfl) ?_
      refine xl_pure rfl rfl rfl (pv_assign (v := .bool _) rfl rfl) ?_
      refine xl_nil ?_
      refine xthen_normal ?_
      refine xc_ret ?_
      refine fin_ret (res1 (v := .bool _) rfl rfl) ?_
      first
        | exact ⟨bv (decide_eq_true (by omega)).symm, hT⟩
        | exact ⟨bv (decide_eq_false (by omega)).symm, hT⟩
  · skip
    refine xp_pure (i := 5) rfl (by kernel_rfl) (by kernel_rfl) rfl rfl rfl (pv_move (v := .bool _) rfl rfl) ?_
    refine xp_skip (i := 6) rfl (by kernel_rfl) (by kernel_rfl) rfl rfl rfl ?_
    refine xp_skip (i := 7) rfl (by kernel_rfl) (by kernel_rfl) rfl rfl rfl ?_
    refine xp_skip (i := 8) rfl (by kernel_rfl) (by kernel_rfl) rfl rfl rfl ?_
    refine xp_skip (i := 9) rfl (by kernel_rfl) (by kernel_rfl) rfl rfl rfl ?_
    refine xp_skip (i := 10) rfl (by kernel_rfl) (by kernel_rfl) rfl rfl rfl ?_
    refine xp_skip (i := 11) rfl (by kernel_rfl) (by kernel_rfl) rfl rfl rfl ?_
    refine xp_pure (i := 12) rfl (by kernel_rfl) (by kernel_rfl) rfl rfl rfl (pv_pick_f (v := .bool _) rfl rfl rfl) ?_
    refine xp_pure (i := 13) rfl (by kernel_rfl) (by kernel_rfl) rfl rfl rfl (pv_assign (v := .bool _) rfl rfl) ?_
    refine xp_done (by kernel_rfl) ?_
    refine xthen_normal ?_
    refine xc_seq ?_
    refine xc_region ?_
    refine xl_pure rfl rfl rfl (pv_move (v := .pointer _) rfl rfl) ?_
    refine xl_pure rfl rfl rfl (pv_move (v := .pointer _) rfl rfl) ?_
    refine xl_pure rfl rfl rfl (pv_nilCheck_p rfl rfl) ?_
    refine xl_pure rfl rfl rfl (pv_fieldAddr rfl rfl) ?_
    refine xl_store rfl rfl (hv_store (vs := [.int _ _]) rfl rfl rfl (by first | exact ld_blk hr rfl | exact ld_blk hn rfl | exact hr) rfl (Nat.le_of_ble_eq_true rfl) rfl) ?_
    rintro v2_4 H2_4 ⟨hU2_4, hZ2_4⟩
    have hr := hU2_4.blk
    have hn := hn.but hU2_4.but hne
    have hT := hU2_4
    refine xl_pure rfl rfl rfl (pv_nilCheck_p rfl rfl) ?_
    refine xl_pure rfl rfl rfl (pv_fieldAddr rfl rfl) ?_
    refine xl_store rfl rfl (hv_store (vs := [.int _ _]) rfl rfl rfl (by first | exact ld_blk hr rfl | exact ld_blk hn rfl | exact hr) rfl (Nat.le_of_ble_eq_true rfl) rfl) ?_
    rintro v2_7 H2_7 ⟨hU2_7, hZ2_7⟩
    have hr := hU2_7.blk
    have hn := hn.but hU2_7.but hne
    have hT := hT.trans' hU2_7
    refine xl_nil ?_
    refine xthen_normal ?_
    refine xc_seq ?_
    refine xc_region ?_
    refine xl_pure rfl rfl rfl (pv_move (v := .bool _) rfl rfl) ?_
    refine xl_pure rfl rfl rfl (pv_assign (v := .bool _) rfl rfl) ?_
    refine xl_nil ?_
    refine xthen_normal ?_
    refine xc_ret ?_
    refine fin_ret (res1 (v := .bool _) rfl rfl) ?_
    first
      | exact ⟨bv (decide_eq_true (by omega)).symm, hT⟩
      | exact ⟨bv (decide_eq_false (by omega)).symm, hT⟩

theorem c49 {O : Outer} {H : Heap} {b : Nat} (j : J) (a : Option Addr) (c : Nat) (now : Int) (hg : Good j) (_hnow : 0 ≤ now ∧ now ≤ 1099511627776) (hr : Blk H b (jcs j a c) 26) :
    FnC Try.prog 49 #[.pointer (some ⟨b, 0, none⟩)] O H (fun v H' => v = .bool (actB j 5 0).1 ∧ Upd H H' b (jcs (actB j 5 0).2 a c) 26) := by
  have hst : Stands j := hg.2.2.2.2
  have hsx : Six j := hg.1
  unfold Stands at hst
  unfold Six at hsx
  refine fn_enter (A := [.pointer (some ⟨b, 0, none⟩)]) Try.func49 rfl rfl ?_
  refine xc_seq ?_
  refine xc_region ?_
  refine xl_pure rfl rfl rfl (pv_assign (v := .bool _) rfl rfl) ?_
  refine xl_nil ?_
  refine xthen_normal ?_
  refine xc_seq ?_
  refine xc_region ?_
  refine xl_pure rfl rfl rfl (pv_move (v := .pointer _) rfl rfl) ?_
  refine xl_pure rfl rfl rfl (pv_nilCheck_p rfl rfl) ?_
  refine xl_pure rfl rfl rfl (pv_fieldAddr rfl rfl) ?_
  refine xl_light rfl rfl rfl (lv_load (v := .int _ _) rfl rfl (by first | exact ld_blk hr rfl | exact hr)) ?_
  refine xl_dec rfl rfl rfl (pv_eql rfl rfl rfl) (fun h1_4 => ?_) (fun h1_4 => ?_)
  · skip
    refine xl_pure rfl rfl rfl (pv_assign (v := .bool _) rfl rfl) ?_
    refine xl_nil ?_
    refine xthen_normal ?_
    refine xc_seq ?_
    refine xc_region ?_
    refine xl_pure rfl rfl rfl (pv_move (v := .pointer _) rfl rfl) ?_
    refine xl_pure rfl rfl rfl (pv_nilCheck_p rfl rfl) ?_
    refine xl_pure rfl rfl rfl (pv_fieldAddr rfl rfl) ?_
    refine xl_store rfl rfl (hv_store (vs := [.int _ _]) rfl rfl rfl (by first | exact ld_blk hr rfl | exact hr) rfl (Nat.le_of_ble_eq_true rfl) rfl) ?_
    rintro v2_3 H2_3 ⟨hU2_3, hZ2_3⟩
    have hr := hU2_3.blk
    have hT := hU2_3
    refine xl_nil ?_
    refine xthen_normal ?_
    refine xc_seq ?_
    refine xc_region ?_
    refine xl_pure rfl rfl rfl (pv_move (v := .bool _) rfl rfl) ?_
    refine xl_pure rfl rfl rfl (pv_assign (v := .bool _) rfl rfl) ?_
    refine xl_nil ?_
    refine xthen_normal ?_
    refine xc_ret ?_
    refine fin_ret (res1 (v := .bool _) rfl rfl) ?_
    first
      | exact ⟨bv (decide_eq_true (by omega)).symm, hT⟩
      | exact ⟨bv (decide_eq_false (by omega)).symm, hT⟩
  · skip
    refine xl_pure rfl rfl rfl (pv_assign (v := .bool _) rfl rfl) ?_
    refine xl_nil ?_
    refine xthen_normal ?_
    refine xc_seq ?_
    refine xc_region ?_
    refine xl_pure rfl rfl rfl (pv_move (v := .pointer _) rfl rfl) ?_
    refine xl_pure rfl rfl rfl (pv_nilCheck_p rfl rfl) ?_
    refine xl_pure rfl rfl rfl (pv_fieldAddr rfl rfl) ?_
    refine xl_store rfl rfl (hv_store (vs := [.int _ _]) rfl rfl rfl (by first | exact ld_blk hr rfl | exact hr) rfl (Nat.le_of_ble_eq_true rfl) rfl) ?_
    rintro v2_3 H2_3 ⟨hU2_3, hZ2_3⟩
    have hr := hU2_3.blk
    have hT := hU2_3
    refine xl_nil ?_
    refine xthen_normal ?_
    refine xc_seq ?_
    refine xc_region ?_
    refine xl_pure rfl rfl rfl (pv_move (v := .bool _) rfl rfl) ?_
    refine xl_pure rfl rfl rfl (pv_assign (v := .bool _) rfl rfl) ?_
    refine xl_nil ?_
    refine xthen_normal ?_
    refine xc_ret ?_
    refine fin_ret (res1 (v := .bool _) rfl rfl) ?_
    first
      | exact ⟨bv (decide_eq_true (by omega)).symm, hT⟩
      | exact ⟨bv (decide_eq_false (by omega)).symm, hT⟩

theorem c50 {O : Outer} {H : Heap} {b : Nat} (j : J) (a : Option Addr) (c : Nat) (now : Int) (hg : Good j) (_hnow : 0 ≤ now ∧ now ≤ 1099511627776) (hr : Blk H b (jcs j a c) 26) :
    FnC Try.prog 50 #[.pointer (some ⟨b, 0, none⟩)] O H (fun v H' => v = .bool (actB j 6 0).1 ∧ Upd H H' b (jcs (actB j 6 0).2 a c) 26) := by
  have hst : Stands j := hg.2.2.2.2
  have hsx : Six j := hg.1
  unfold Stands at hst
  unfold Six at hsx
  refine fn_enter (A := [.pointer (some ⟨b, 0, none⟩)]) Try.func50 rfl rfl ?_
  refine xc_seq ?_
  refine xc_region ?_
  refine xl_pure rfl rfl rfl (pv_assign (v := .bool _) rfl rfl) ?_
  refine xl_nil ?_
  refine xthen_normal ?_
  refine xc_seq ?_
  refine xc_region ?_
  refine xl_pure rfl rfl rfl (pv_move (v := .pointer _) rfl rfl) ?_
  refine xl_pure rfl rfl rfl (pv_nilCheck_p rfl rfl) ?_
  refine xl_pure rfl rfl rfl (pv_fieldAddr rfl rfl) ?_
  refine xl_light rfl rfl rfl (lv_load (v := .int _ _) rfl rfl (by first | exact ld_blk hr rfl | exact hr)) ?_
  refine xl_heavy rfl rfl rfl (hv_call (g := 28) rfl rfl (c28 _ _ _) rfl) ?_
  rintro v1_4 H1_4 ⟨r1_4, rfl, hb1_4, rfl⟩
  cases r1_4
  · skip
    replace hb1_4 := mt hb1_4.2 (by decide)
    refine xl_pure rfl rfl rfl (pv_assign (v := .bool _) rfl rfl) ?_
    refine xl_nil ?_
    refine xthen_normal ?_
    refine xc_seq ?_
    refine xc_region ?_
    refine xl_pure rfl rfl rfl (pv_move (v := .pointer _) rfl rfl) ?_
    refine xl_pure rfl rfl rfl (pv_move (v := .pointer _) rfl rfl) ?_
    refine xl_pure rfl rfl rfl (pv_move (v := .pointer _) rfl rfl) ?_
    refine xl_pure rfl rfl rfl (pv_move (v := .pointer _) rfl rfl) ?_
    refine xl_pure rfl rfl rfl (pv_nilCheck_p rfl rfl) ?_
    refine xl_pure rfl rfl rfl (pv_fieldAddr rfl rfl) ?_
    refine xl_store rfl rfl (hv_store (vs := [.int _ _]) rfl rfl rfl (by first | exact ld_blk hr rfl | exact hr) rfl (Nat.le_of_ble_eq_true rfl) rfl) ?_
    rintro v2_6 H2_6 ⟨hU2_6, hZ2_6⟩
    have hr := hU2_6.blk
    have hT := hU2_6
    refine xl_pure rfl rfl rfl (pv_nilCheck_p rfl rfl) ?_
    refine xl_pure rfl rfl rfl (pv_fieldAddr rfl rfl) ?_
    refine xl_store rfl rfl (hv_store (vs := [.int _ _]) rfl rfl rfl (by first | exact ld_blk hr rfl | exact hr) rfl (Nat.le_of_ble_eq_true rfl) rfl) ?_
    rintro v2_9 H2_9 ⟨hU2_9, hZ2_9⟩
    have hr := hU2_9.blk
    have hT := hT.trans' hU2_9
    refine xl_pure rfl rfl rfl (pv_nilCheck_p rfl rfl) ?_
    refine xl_pure rfl rfl rfl (pv_fieldAddr rfl rfl) ?_
    refine xl_store rfl rfl (hv_store (vs := [.int _ _]) rfl rfl rfl (by first | exact ld_blk hr rfl | exact hr) rfl (Nat.le_of_ble_eq_true rfl) rfl) ?_
    rintro v2_12 H2_12 ⟨hU2_12, hZ2_12⟩
    have hr := hU2_12.blk
    have hT := hT.trans' hU2_12
    refine xl_pure rfl rfl rfl (pv_nilCheck_p rfl rfl) ?_
    refine xl_pure rfl rfl rfl (pv_fieldAddr rfl rfl) ?_
    refine xl_store rfl rfl (hv_store (vs := [.int _ _]) rfl rfl rfl (by first | exact ld_blk hr rfl | exact hr) rfl (Nat.le_of_ble_eq_true rfl) rfl) ?_
    rintro v2_15 H2_15 ⟨hU2_15, hZ2_15⟩
    have hr := hU2_15.blk
    have hT := hT.trans' hU2_15
    refine xl_nil ?_
    refine xthen_normal ?_
    refine xc_seq ?_
    refine xc_region ?_
    refine xl_pure rfl rfl rfl (pv_move (v := .bool _) rfl rfl) ?_
    refine xl_pure rfl rfl rfl (pv_assign (v := .bool _) rfl rfl) ?_
    refine xl_nil ?_
    refine xthen_normal ?_
    refine xc_ret ?_
    refine fin_ret (res1 (v := .bool _) rfl rfl) ?_
    first
      | exact ⟨bv (decide_eq_true (by omega)).symm, hT⟩
      | exact ⟨bv (decide_eq_false (by omega)).symm, hT⟩
  · skip
    replace hb1_4 := hb1_4.1 rfl
    refine xl_pure rfl rfl rfl (pv_assign (v := .bool _) rfl rfl) ?_
    refine xl_nil ?_
    refine xthen_normal ?_
    refine xc_seq ?_
    refine xc_region ?_
    refine xl_pure rfl rfl rfl (pv_move (v := .pointer _) rfl rfl) ?_
    refine xl_pure rfl rfl rfl (pv_move (v := .pointer _) rfl rfl) ?_
    refine xl_pure rfl rfl rfl (pv_move (v := .pointer _) rfl rfl) ?_
    refine xl_pure rfl rfl rfl (pv_move (v := .pointer _) rfl rfl) ?_
    refine xl_pure rfl rfl rfl (pv_nilCheck_p rfl rfl) ?_
    refine xl_pure rfl rfl rfl (pv_fieldAddr rfl rfl) ?_
    refine xl_store rfl rfl (hv_store (vs := [.int _ _]) rfl rfl rfl (by first | exact ld_blk hr rfl | exact hr) rfl (Nat.le_of_ble_eq_true rfl) rfl) ?_
    rintro v2_6 H2_6 ⟨hU2_6, hZ2_6⟩
    have hr := hU2_6.blk
    have hT := hU2_6
    refine xl_pure rfl rfl rfl (pv_nilCheck_p rfl rfl) ?_
    refine xl_pure rfl rfl rfl (pv_fieldAddr rfl rfl) ?_
    refine xl_store rfl rfl (hv_store (vs := [.int _ _]) rfl rfl rfl (by first | exact ld_blk hr rfl | exact hr) rfl (Nat.le_of_ble_eq_true rfl) rfl) ?_
    rintro v2_9 H2_9 ⟨hU2_9, hZ2_9⟩
    have hr := hU2_9.blk
    have hT := hT.trans' hU2_9
    refine xl_pure rfl rfl rfl (pv_nilCheck_p rfl rfl) ?_
    refine xl_pure rfl rfl rfl (pv_fieldAddr rfl rfl) ?_
    refine xl_store rfl rfl (hv_store (vs := [.int _ _]) rfl rfl rfl (by first | exact ld_blk hr rfl | exact hr) rfl (Nat.le_of_ble_eq_true rfl) rfl) ?_
    rintro v2_12 H2_12 ⟨hU2_12, hZ2_12⟩
    have hr := hU2_12.blk
    have hT := hT.trans' hU2_12
    refine xl_pure rfl rfl rfl (pv_nilCheck_p rfl rfl) ?_
    refine xl_pure rfl rfl rfl (pv_fieldAddr rfl rfl) ?_
    refine xl_store rfl rfl (hv_store (vs := [.int _ _]) rfl rfl rfl (by first | exact ld_blk hr rfl | exact hr) rfl (Nat.le_of_ble_eq_true rfl) rfl) ?_
    rintro v2_15 H2_15 ⟨hU2_15, hZ2_15⟩
    have hr := hU2_15.blk
    have hT := hT.trans' hU2_15
    refine xl_nil ?_
    refine xthen_normal ?_
    refine xc_seq ?_
    refine xc_region ?_
    refine xl_pure rfl rfl rfl (pv_move (v := .bool _) rfl rfl) ?_
    refine xl_pure rfl rfl rfl (pv_assign (v := .bool _) rfl rfl) ?_
    refine xl_nil ?_
    refine xthen_normal ?_
    refine xc_ret ?_
    refine fin_ret (res1 (v := .bool _) rfl rfl) ?_
    first
      | exact ⟨bv (decide_eq_true (by omega)).symm, hT⟩
      | exact ⟨bv (decide_eq_false (by omega)).symm, hT⟩
end Go.XG
