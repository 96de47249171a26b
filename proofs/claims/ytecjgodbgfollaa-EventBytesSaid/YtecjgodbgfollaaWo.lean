/-
  Walks of the seat's functions over the logic XG: each function, what it computes. Printed by a program out of wip/walks.py.
-/
import Derived.Test.YtecjgodbgfollaaI
import Derived.Test.YtecjgodbgfollaaLn
import Derived.Test.YtecjgodbgfollaaNa
import Derived.Test.YtecjgodbgfollaaNb
import Derived.Test.YtecjgodbgfollaaNc
import Derived.Test.YtecjgodbgfollaaNd
import Derived.Test.YtecjgodbgfollaaNf
import Derived.Test.YtecjgodbgfollaaNg
import Derived.Test.YtecjgodbgfollaaE
import Derived.Test.YtecjgodbgfollaaWa
import Derived.Test.YtecjgodbgfollaaWb
import Derived.Test.YtecjgodbgfollaaWc
import Derived.Test.YtecjgodbgfollaaWd
import Derived.Test.YtecjgodbgfollaaWe
import Derived.Test.YtecjgodbgfollaaWf
import Derived.Test.YtecjgodbgfollaaWg
import Derived.Test.YtecjgodbgfollaaWh
import Derived.Test.YtecjgodbgfollaaWi
import Derived.Test.YtecjgodbgfollaaWj
import Derived.Test.YtecjgodbgfollaaE2
import Derived.Test.YtecjgodbgfollaaWk
import Derived.Test.YtecjgodbgfollaaWl
import Derived.Test.YtecjgodbgfollaaE3
import Derived.Test.YtecjgodbgfollaaWm
import Derived.Test.YtecjgodbgfollaaWn
import Derived.Test.YtecjgodbgfollaaE4
namespace Go.XG
open Go.Proofs Go.Pen
set_option maxRecDepth 4000
set_option maxHeartbeats 4000000
theorem c21 {O : Outer} {H : Heap} (l : List (List Int)) (la : Option Addr) (lc : Nat) (hR : Rows H la 4 l) (hl : l.length ≤ 1048576) :
    FnC Try.prog 21 #[.slice la (List.length l) lc] O H (fun v H' => (loadL l = none ∧ v = .tuple #[.string (bs []), .int .i64 1] ∨ loadL l = some l ∧ v = .tuple #[.string (bs (putB l)), .int .i64 0]) ∧ Ext H H') := by
  refine fn_enter (A := [.slice la (List.length l) lc]) Try.func21 rfl rfl ?_
  have hX := Ext.refl H
  refine xc_seq ?_
  refine xc_region ?_
  refine xl_pure rfl rfl rfl (pv_assign (v := .string (bs _)) rfl rfl) ?_
  refine xl_pure rfl rfl rfl (pv_assign (v := .int _ _) rfl rfl) ?_
  refine xl_nil ?_
  refine xthen_normal ?_
  refine xc_seq ?_
  refine xc_region ?_
  refine xl_pure rfl rfl rfl (pv_move (v := .slice _ _ _) rfl rfl) ?_
  refine xl_heavy rfl rfl rfl (hv_call (g := 13) rfl rfl (c13 l la lc (hR.ext hX) (by omega)) rfl) ?_
  rintro v1_1 H1_1 ⟨e1_1, x1_1, a1_1, c1_1, rfl, hc1_1, hr1_1, hxl, hxz, hn1_1, hE1_1⟩
  have hX := hX.trans hE1_1
  have hX1_1 := Ext.refl H1_1
  rcases hc1_1 with ⟨rfl, hld⟩ | ⟨rfl, hld⟩
  · skip
    obtain ⟨hxe, hst⟩ := load_self hR.1 hld
    replace hxe := hxe.symm
    subst hxe
    refine xl_pure rfl rfl rfl (pv_move (v := .tuple _) rfl rfl) ?_
    refine xl_pure rfl rfl rfl (pv_extract (v := .slice _ _ _) rfl rfl rfl) ?_
    refine xl_pure rfl rfl rfl (pv_extract (v := .int _ _) rfl rfl rfl) ?_
    refine xl_pure rfl rfl rfl (pv_assign (v := .slice _ _ _) rfl rfl) ?_
    refine xl_pure rfl rfl rfl (pv_assign (v := .int _ _) rfl rfl) ?_
    refine xl_nil ?_
    refine xthen_normal ?_
    refine xc_seq ?_
    refine xc_seq ?_
    refine xc_region ?_
    refine xl_pure rfl rfl rfl (pv_move (v := .int _ _) rfl rfl) ?_
    refine xl_ndec rfl rfl rfl (pv_neq rfl rfl rfl) (fun h2_1 => ?_) (fun h2_1 => ?_)
    · skip
      refine xl_nil ?_
      refine xthen_normal ?_
      refine xc_cond_f rfl ?_
      refine xc_skip ?_
      refine xthen_normal ?_
      refine xc_seq ?_
      refine xc_region ?_
      refine xl_pure rfl rfl rfl (pv_move (v := .slice _ _ _) rfl rfl) ?_
      refine xl_pure rfl rfl rfl (pv_len_l rfl rfl) ?_
      refine xl_heavy rfl rfl rfl (hv_call (g := 32) rfl rfl (p9 _ (by omega)) rfl) ?_
      rintro v4_2 H4_2 ⟨rfl, hE4_2⟩
      have hX := hX.trans hE4_2
      have hX1_1 := hX1_1.trans hE4_2
      refine xl_pure rfl rfl rfl (pv_assign (v := .string (bs _)) rfl rfl) ?_
      refine xl_nil ?_
      refine xthen_normal ?_
      refine xc_seq ?_
      refine xc_region ?_
      refine xl_pure rfl rfl rfl (pv_assign (v := .int _ _) rfl rfl) ?_
      refine xl_nil ?_
      refine xthen_normal ?_
      refine xc_seq ?_
      refine xc_seq ?_
      refine xc_region ?_
      refine xl_pure rfl rfl rfl (pv_assign (v := .int _ _) rfl rfl) ?_
      refine xl_nil ?_
      refine xthen_normal ?_
      refine xc_block ?_
      refine xc_loop (τ := Nat) (fun t => [(4, .slice a1_1 (List.length l) c1_1), (6, .string (bs (uintB (List.length l) ++ encU t l))), (7, .int .i64 (atK l t)), (8, .int .i64 (t : Nat))]) (fun t H' => (t ≤ l.length) ∧ (Ext H1_1 H') ∧ (Ext H H')) (fun t H' => l.length - t) 0 ?_ ?_ ?_
      · exact ⟨rfl, sv (by simp [encU]), rfl, rfl, trivial⟩
      · skip
        exact ⟨Nat.zero_le _, hX1_1, hX⟩
      · intro σ
        clear hX hX1_1
        rintro k Hl7 ⟨hk, hX1_1, hX⟩
        replace hk : k ≤ l.length := hk
        replace hX1_1 : Ext H1_1 Hl7 := hX1_1
        replace hX : Ext H Hl7 := hX
        show XC _ _ _ (upds σ [(4, .slice a1_1 (List.length l) c1_1), (6, .string (bs (uintB (List.length l) ++ encU k l))), (7, .int .i64 (atK l k)), (8, .int .i64 (k : Nat))]) _
        refine xc_seq ?_
        refine xc_seq ?_
        refine xc_region ?_
        refine xl_pure rfl rfl rfl (pv_move (v := .int _ _) rfl rfl) ?_
        refine xl_pure rfl rfl rfl (pv_move (v := .slice _ _ _) rfl rfl) ?_
        refine xl_pure rfl rfl rfl (pv_len_l rfl rfl) ?_
        refine xl_dec rfl rfl rfl (pv_lss rfl rfl rfl) (fun h7_3 => ?_) (fun h7_3 => ?_)
        · skip
          refine xl_nil ?_
          refine xthen_normal ?_
          refine xc_cond_t rfl ?_
          refine xc_skip ?_
          refine xthen_normal ?_
          refine xc_seq ?_
          refine xc_block ?_
          refine xc_seq ?_
          obtain ⟨wa, wo, hwe, hwa⟩ := hr1_1.2.resolve_left (by omega)
          have hnb := (num_bd hst (show k < l.length by omega) 0).2
          refine xp_start rfl (by repeat (first | with_reducible exact np_fin | with_reducible refine np_then ?_ | with_reducible refine np_block ?_)) (by kernel_rfl) ?_
          refine xp_pure (i := 0) rfl (by kernel_rfl) (by kernel_rfl) rfl rfl rfl (pv_move (v := .string (bs _)) rfl rfl) ?_
          refine xp_pure (i := 1) rfl (by kernel_rfl) (by kernel_rfl) rfl rfl rfl (pv_move (v := .slice _ _ _) rfl rfl) ?_
          refine xp_pure (i := 2) rfl (by kernel_rfl) (by kernel_rfl) rfl rfl rfl (pv_move (v := .int _ _) rfl rfl) ?_
          refine xp_pure (i := 3) rfl (by kernel_rfl) (by kernel_rfl) rfl rfl rfl (pv_indexAddr_l rfl (sl_eq hwe) rfl (by omega)) ?_
          refine xp_pure (i := 4) rfl (by kernel_rfl) (by kernel_rfl) rfl rfl rfl (pv_fieldAddr rfl rfl) ?_
          refine xp_light (i := 5) rfl (by kernel_rfl) (by kernel_rfl) rfl rfl rfl (lv_load (v := .int _ _) rfl rfl (by exact ld_num (j := 0) (i := k) (RowsAt.ext hwa hX1_1) hr1_1.1 (by omega) (by omega))) ?_
          refine xp_pure (i := 6) rfl (by kernel_rfl) (by kernel_rfl) rfl rfl rfl (pv_move (v := .int _ _) rfl rfl) ?_
          refine xp_pure (i := 7) rfl (by kernel_rfl) (by kernel_rfl) rfl rfl rfl (pv_sub rfl rfl rfl (fit_i64 (by omega))) ?_
          refine xp_pure (i := 10) rfl (by kernel_rfl) (by kernel_rfl) rfl rfl rfl (pv_move (v := .slice _ _ _) rfl rfl) ?_
          refine xp_pure (i := 11) rfl (by kernel_rfl) (by kernel_rfl) rfl rfl rfl (pv_move (v := .int _ _) rfl rfl) ?_
          refine xp_pure (i := 12) rfl (by kernel_rfl) (by kernel_rfl) rfl rfl rfl (pv_indexAddr_l rfl (sl_eq hwe) rfl (by omega)) ?_
          refine xp_pure (i := 13) rfl (by kernel_rfl) (by kernel_rfl) rfl rfl rfl (pv_fieldAddr rfl rfl) ?_
          refine xp_light (i := 14) rfl (by kernel_rfl) (by kernel_rfl) rfl rfl rfl (lv_load (v := .int _ _) rfl rfl (by exact ld_num (j := 1) (i := k) (RowsAt.ext hwa hX1_1) hr1_1.1 (by omega) (by omega))) ?_
          refine xp_pure (i := 17) rfl (by kernel_rfl) (by kernel_rfl) rfl rfl rfl (pv_move (v := .slice _ _ _) rfl rfl) ?_
          refine xp_pure (i := 18) rfl (by kernel_rfl) (by kernel_rfl) rfl rfl rfl (pv_move (v := .int _ _) rfl rfl) ?_
          refine xp_pure (i := 19) rfl (by kernel_rfl) (by kernel_rfl) rfl rfl rfl (pv_indexAddr_l rfl (sl_eq hwe) rfl (by omega)) ?_
          refine xp_pure (i := 20) rfl (by kernel_rfl) (by kernel_rfl) rfl rfl rfl (pv_fieldAddr rfl rfl) ?_
          refine xp_light (i := 21) rfl (by kernel_rfl) (by kernel_rfl) rfl rfl rfl (lv_load (v := .int _ _) rfl rfl (by exact ld_num (j := 2) (i := k) (RowsAt.ext hwa hX1_1) hr1_1.1 (by omega) (by omega))) ?_
          refine xp_pure (i := 24) rfl (by kernel_rfl) (by kernel_rfl) rfl rfl rfl (pv_move (v := .slice _ _ _) rfl rfl) ?_
          refine xp_pure (i := 25) rfl (by kernel_rfl) (by kernel_rfl) rfl rfl rfl (pv_move (v := .int _ _) rfl rfl) ?_
          refine xp_pure (i := 26) rfl (by kernel_rfl) (by kernel_rfl) rfl rfl rfl (pv_indexAddr_l rfl (sl_eq hwe) rfl (by omega)) ?_
          refine xp_pure (i := 27) rfl (by kernel_rfl) (by kernel_rfl) rfl rfl rfl (pv_fieldAddr rfl rfl) ?_
          refine xp_light (i := 28) rfl (by kernel_rfl) (by kernel_rfl) rfl rfl rfl (lv_load (v := .int _ _) rfl rfl (by exact ld_num (j := 3) (i := k) (RowsAt.ext hwa hX1_1) hr1_1.1 (by omega) (by omega))) ?_
          refine xp_heavy (i := 8) (by kernel_rfl) ?_
          refine xph_val rfl rfl rfl rfl (hv_call (g := 32) rfl rfl (p9 _ (by have := (num_bd hst (show k < l.length by omega) 0).1; simpa [numK] using this)) rfl) (pk (by kernel_rfl) (pk (by kernel_rfl) (pk (by kernel_rfl) (pk (by kernel_rfl) pn)))) ?_
          rintro v9_8 H9_8 ⟨rfl, hE9_8⟩
          have hX := hX.trans hE9_8
          have hX1_1 := hX1_1.trans hE9_8
          refine ⟨(okc (lv_load (v := .int _ _) rfl rfl (by exact ld_num (j := 3) (i := k) (RowsAt.ext hwa hX1_1) hr1_1.1 (by omega) (by omega))) (okc (lv_load (v := .int _ _) rfl rfl (by exact ld_num (j := 2) (i := k) (RowsAt.ext hwa hX1_1) hr1_1.1 (by omega) (by omega))) (okc (lv_load (v := .int _ _) rfl rfl (by exact ld_num (j := 1) (i := k) (RowsAt.ext hwa hX1_1) hr1_1.1 (by omega) (by omega))) (okc (lv_load (v := .int _ _) rfl rfl (by exact ld_num (j := 0) (i := k) (RowsAt.ext hwa hX1_1) hr1_1.1 (by omega) (by omega))) okn)))), ?_⟩
          refine xp_pure (i := 9) rfl (by kernel_rfl) (by kernel_rfl) rfl rfl rfl (pv_add_s rfl rfl rfl (putA (by omega))) ?_
          refine xp_heavy (i := 15) (by kernel_rfl) ?_
          refine xph_val rfl rfl rfl rfl (hv_call (g := 32) rfl rfl (p9 _ (by have := (num_bd hst (show k < l.length by omega) 1).1; simpa [numK] using this)) rfl) (pk (by kernel_rfl) (pk (by kernel_rfl) (pd (by kernel_rfl) (pk (by kernel_rfl) pn)))) ?_
          rintro v9_15 H9_15 ⟨rfl, hE9_15⟩
          have hX := hX.trans hE9_15
          have hX1_1 := hX1_1.trans hE9_15
          refine ⟨(okc (lv_load (v := .int _ _) rfl rfl (by exact ld_num (j := 3) (i := k) (RowsAt.ext hwa hX1_1) hr1_1.1 (by omega) (by omega))) (okc (lv_load (v := .int _ _) rfl rfl (by exact ld_num (j := 2) (i := k) (RowsAt.ext hwa hX1_1) hr1_1.1 (by omega) (by omega))) (okc (lv_load (v := .int _ _) rfl rfl (by exact ld_num (j := 0) (i := k) (RowsAt.ext hwa hX1_1) hr1_1.1 (by omega) (by omega))) okn))), ?_⟩
          refine xp_pure (i := 16) rfl (by kernel_rfl) (by kernel_rfl) rfl rfl rfl (pv_add_s rfl rfl rfl (putA2 (by omega))) ?_
          refine xp_heavy (i := 22) (by kernel_rfl) ?_
          refine xph_val rfl rfl rfl rfl (hv_call (g := 32) rfl rfl (p9 _ (by have := (num_bd hst (show k < l.length by omega) 2).1; simpa [numK] using this)) rfl) (pk (by kernel_rfl) (pd (by kernel_rfl) (pk (by kernel_rfl) pn))) ?_
          rintro v9_22 H9_22 ⟨rfl, hE9_22⟩
          have hX := hX.trans hE9_22
          have hX1_1 := hX1_1.trans hE9_22
          refine ⟨(okc (lv_load (v := .int _ _) rfl rfl (by exact ld_num (j := 3) (i := k) (RowsAt.ext hwa hX1_1) hr1_1.1 (by omega) (by omega))) (okc (lv_load (v := .int _ _) rfl rfl (by exact ld_num (j := 0) (i := k) (RowsAt.ext hwa hX1_1) hr1_1.1 (by omega) (by omega))) okn)), ?_⟩
          refine xp_pure (i := 23) rfl (by kernel_rfl) (by kernel_rfl) rfl rfl rfl (pv_add_s rfl rfl rfl (putA3 (by omega))) ?_
          refine xp_heavy (i := 29) (by kernel_rfl) ?_
          refine xph_val rfl rfl rfl rfl (hv_call (g := 32) rfl rfl (p9 _ (by have := (num_bd hst (show k < l.length by omega) 3).1; simpa [numK] using this)) rfl) (pd (by kernel_rfl) (pk (by kernel_rfl) pn)) ?_
          rintro v9_29 H9_29 ⟨rfl, hE9_29⟩
          have hX := hX.trans hE9_29
          have hX1_1 := hX1_1.trans hE9_29
          refine ⟨(okc (lv_load (v := .int _ _) rfl rfl (by exact ld_num (j := 0) (i := k) (RowsAt.ext hwa hX1_1) hr1_1.1 (by omega) (by omega))) okn), ?_⟩
          refine xp_pure (i := 30) rfl (by kernel_rfl) (by kernel_rfl) rfl rfl rfl (pv_add_s rfl rfl rfl (putA4 (by omega))) ?_
          refine xp_pure (i := 31) rfl (by kernel_rfl) (by kernel_rfl) rfl rfl rfl (pv_assign (v := .string (bs _)) rfl rfl) ?_
          refine xp_done (by kernel_rfl) ?_
          refine xthen_normal ?_
          refine xc_region ?_
          refine xl_pure rfl rfl rfl (pv_move (v := .slice _ _ _) rfl rfl) ?_
          refine xl_pure rfl rfl rfl (pv_move (v := .int _ _) rfl rfl) ?_
          refine xl_pure rfl rfl rfl (pv_indexAddr_l rfl (sl_eq hwe) rfl (by omega)) ?_
          refine xl_pure rfl rfl rfl (pv_fieldAddr rfl rfl) ?_
          refine xl_light rfl rfl rfl (lv_load (v := .int _ _) rfl rfl (by exact ld_num (j := 0) (i := k) (RowsAt.ext hwa hX1_1) hr1_1.1 (by omega) (by omega))) ?_
          refine xl_pure rfl rfl rfl (pv_assign (v := .int _ _) rfl rfl) ?_
          refine xl_nil ?_
          refine xblock_normal ?_
          refine xthen_normal ?_
          refine xc_region ?_
          refine xl_pure rfl rfl rfl (pv_move (v := .int _ _) rfl rfl) ?_
          refine xl_pure rfl rfl rfl (pv_add rfl rfl rfl (fit_i64 (by omega))) ?_
          refine xl_pure rfl rfl rfl (pv_assign (v := .int _ _) rfl rfl) ?_
          refine xl_nil ?_
          refine xthen_normal ?_
          exact ⟨k + 1, ⟨rfl, sv (by simp [encU, encK, numK]), rfl, rfl, trivial⟩, ⟨by (try simp only); omega, hX1_1, hX⟩, by (try simp only); omega⟩
        · skip
          refine xl_nil ?_
          refine xthen_normal ?_
          refine xc_cond_f rfl ?_
          refine xc_exit ?_
          refine xthen_exit ?_
          refine xthen_exit ?_
          refine xblock_same ?_
          refine xthen_normal ?_
          refine xc_seq ?_
          refine xc_region ?_
          refine xl_pure rfl rfl rfl (pv_move (v := .string (bs _)) rfl rfl) ?_
          refine xl_pure rfl rfl rfl (pv_assign (v := .string (bs _)) rfl rfl) ?_
          refine xl_pure rfl rfl rfl (pv_assign (v := .int _ _) rfl rfl) ?_
          refine xl_nil ?_
          refine xthen_normal ?_
          refine xc_ret ?_
          refine fin_ret (res2 (v := .string (bs _)) (x := .int _ _) rfl rfl rfl) ?_
          exact ⟨.inr ⟨hld, by rw [show k = l.length by omega]; rfl⟩, hX⟩
    · exact absurd (by decide) h2_1
  · skip
    refine xl_pure rfl rfl rfl (pv_move (v := .tuple _) rfl rfl) ?_
    refine xl_pure rfl rfl rfl (pv_extract (v := .slice _ _ _) rfl rfl rfl) ?_
    refine xl_pure rfl rfl rfl (pv_extract (v := .int _ _) rfl rfl rfl) ?_
    refine xl_pure rfl rfl rfl (pv_assign (v := .slice _ _ _) rfl rfl) ?_
    refine xl_pure rfl rfl rfl (pv_assign (v := .int _ _) rfl rfl) ?_
    refine xl_nil ?_
    refine xthen_normal ?_
    refine xc_seq ?_
    refine xc_seq ?_
    refine xc_region ?_
    refine xl_pure rfl rfl rfl (pv_move (v := .int _ _) rfl rfl) ?_
    refine xl_ndec rfl rfl rfl (pv_neq rfl rfl rfl) (fun h2_1 => ?_) (fun h2_1 => ?_)
    · exact absurd h2_1 (by decide)
    · skip
      refine xl_nil ?_
      refine xthen_normal ?_
      refine xc_cond_t rfl ?_
      refine xc_seq ?_
      refine xc_region ?_
      refine xl_pure rfl rfl rfl (pv_move (v := .int _ _) rfl rfl) ?_
      refine xl_pure rfl rfl rfl (pv_assign (v := .string (bs _)) rfl rfl) ?_
      refine xl_pure rfl rfl rfl (pv_assign (v := .int _ _) rfl rfl) ?_
      refine xl_nil ?_
      refine xthen_normal ?_
      refine xc_ret ?_
      refine xthen_ret ?_
      refine fin_ret (res2 (v := .string (bs _)) (x := .int _ _) rfl rfl rfl) ?_
      exact ⟨.inl ⟨hld, rfl⟩, hX⟩

theorem c22 {O : Outer} {H : Heap} (s : List UInt8) :
    FnC Try.prog 22 #[.string (bs s)] O H (fun v H' => ∃ e x a c, v = .tuple #[.slice a (List.length x) c, .int .i64 e] ∧ takeS s = (e, x) ∧ Rows H' a 4 x ∧ x.length ≤ 128 ∧ Ext H H') := by
  refine fn_enter (A := [.string (bs s)]) Try.func22 rfl rfl ?_
  have hX := Ext.refl H
  refine xc_seq ?_
  refine xc_region ?_
  refine xl_pure rfl rfl rfl (pv_assign (v := .slice _ _ _) rfl rfl) ?_
  refine xl_pure rfl rfl rfl (pv_assign (v := .int _ _) rfl rfl) ?_
  refine xl_nil ?_
  refine xthen_normal ?_
  refine xc_seq ?_
  refine xc_region ?_
  refine xl_pure rfl rfl rfl (pv_move (v := .string (bs _)) rfl rfl) ?_
  refine xl_heavy rfl rfl rfl (hv_call (g := 33) rfl rfl (p14 s) rfl) ?_
  rintro v1_1 H1_1 ⟨rd, rfl, hN1_1⟩
  have grd := hX.fresh hN1_1
  have mr := hN1_1.blk
  have hX := hX.trans hN1_1.ext
  refine xl_pure rfl rfl rfl (pv_assign (v := .pointer _) rfl rfl) ?_
  refine xl_nil ?_
  refine xthen_normal ?_
  refine xc_seq ?_
  refine xc_region ?_
  refine xl_pure rfl rfl rfl (pv_assign (v := .slice _ _ _) rfl rfl) ?_
  refine xl_nil ?_
  refine xthen_normal ?_
  refine xc_seq ?_
  refine xc_region ?_
  refine xl_pure rfl rfl rfl (pv_assign (v := .int _ _) rfl rfl) ?_
  refine xl_nil ?_
  refine xthen_normal ?_
  refine xc_seq ?_
  refine xc_seq ?_
  refine xc_region ?_
  refine xl_pure rfl rfl rfl (pv_move (v := .pointer _) rfl rfl) ?_
  refine xl_heavy rfl rfl rfl (hv_call (g := 34) rfl rfl (p15 mr (128)) rfl) ?_
  rintro v4_1 H4_1 ⟨n4_1, l4_1, bad4_1, hw4_1, hn4_1, rfl, hU4_1⟩
  have hX := hX.upd hU4_1.but grd
  have mr := hU4_1.blk
  refine xl_pure rfl rfl rfl (pv_move (v := .int _ _) rfl rfl) ?_
  refine xl_nil ?_
  refine xthen_normal ?_
  refine xc_block ?_
  refine xc_loop (τ := List (List Int) × Int × List UInt8 × Bool × Nat × Value) (fun t => [(4, .pointer (some ⟨rd, 0, none⟩)), (5, t.2.2.2.2.2), (6, .int .i64 t.2.1), (12, .int .i64 (n4_1 : Nat)), (13, .int .i64 (t.2.2.2.2.1 : Nat))]) (fun t H' => (t.2.2.2.2.1 ≤ n4_1) ∧ (rdN t.2.2.2.2.1 (l4_1, bad4_1) = (t.1, t.2.1, (t.2.2.1, t.2.2.2.1))) ∧ (0 ≤ t.2.1 ∧ t.2.1 ≤ 1099511627776 * t.2.2.2.2.1) ∧ (t.1.length = t.2.2.2.2.1) ∧ (Wide 4 t.1) ∧ (Blk H' rd [.string (bs t.2.2.1), .bool t.2.2.2.1, .bool true] 73) ∧ (Own H' H.size 29 4 t.2.2.2.2.2 t.1.length (fr t.1)) ∧ (Ext H H')) (fun t H' => n4_1 - t.2.2.2.2.1) ([], 0, l4_1, bad4_1, 0, .slice none 0 0) ?_ ?_ ?_
  · exact ⟨rfl, rfl, rfl, rfl, rfl, trivial⟩
  · skip
    exact ⟨Nat.zero_le _, rfl, by (try simp only); omega, rfl, wide_nil, mr, Own.nil .., hX⟩
  · intro σ
    clear hX mr
    rintro ⟨rows, at0, l0, bad0, k, vo5⟩ Hl5 ⟨hk, hrd, hat, hrl, hwd, mr, ho, hX⟩
    replace hk : k ≤ n4_1 := hk
    replace hrd : rdN k (l4_1, bad4_1) = (rows, at0, (l0, bad0)) := hrd
    replace hat : 0 ≤ at0 ∧ at0 ≤ 1099511627776 * k := hat
    replace hrl : rows.length = k := hrl
    replace hwd : Wide 4 rows := hwd
    replace mr : Blk Hl5 rd [.string (bs l0), .bool bad0, .bool true] 73 := mr
    replace ho : Own Hl5 H.size 29 4 vo5 rows.length (fr rows) := ho
    replace hX : Ext H Hl5 := hX
    obtain ⟨va5, vc5, rfl⟩ := ho.val
    show XC _ _ _ (upds σ [(4, .pointer (some ⟨rd, 0, none⟩)), (5, .slice va5 rows.length vc5), (6, .int .i64 at0), (12, .int .i64 (n4_1 : Nat)), (13, .int .i64 (k : Nat))]) _
    refine xc_seq ?_
    refine xc_region ?_
    refine xl_dec rfl rfl rfl (pv_lss rfl rfl rfl) (fun h5_0 => ?_) (fun h5_0 => ?_)
    · skip
      refine xl_nil ?_
      refine xthen_normal ?_
      refine xc_seq ?_
      refine xc_cond_t rfl ?_
      refine xc_skip ?_
      refine xthen_normal ?_
      refine xc_seq ?_
      refine xc_block ?_
      refine xc_seq ?_
      have hn128 : (n4_1 : Int) ≤ 128 := uintS_le (by decide) hw4_1
      refine xc_region ?_
      refine xl_pure rfl rfl rfl (pv_move (v := .int _ _) rfl rfl) ?_
      refine xl_pure rfl rfl rfl (pv_move (v := .pointer _) rfl rfl) ?_
      refine xl_heavy rfl rfl rfl (hv_call (g := 34) rfl rfl (p15 mr (1099511627776)) rfl) ?_
      rintro v6_2 H6_2 ⟨n6_2, l6_2, bad6_2, hw6_2, hn6_2, rfl, hU6_2⟩
      have ho := ho.offU mr hU6_2.but (.inl rfl)
      have hX := hX.upd hU6_2.but grd
      have mr := hU6_2.blk
      have hb6 : (n6_2 : Int) ≤ 1099511627776 := uintS_le (by decide) hw6_2
      refine xl_pure rfl rfl rfl (pv_add rfl rfl rfl (fit_i64 (by omega))) ?_
      refine xl_pure rfl rfl rfl (pv_assign (v := .int _ _) rfl rfl) ?_
      refine xl_nil ?_
      refine xthen_normal ?_
      refine xc_region ?_
      refine xl_pure rfl rfl rfl (pv_move (v := .slice _ _ _) rfl rfl) ?_
      refine xl_pure rfl rfl rfl (pv_move (v := .int _ _) rfl rfl) ?_
      refine xl_pure rfl rfl rfl (pv_move (v := .pointer _) rfl rfl) ?_
      refine xl_heavy rfl rfl rfl (hv_call (g := 34) rfl rfl (p15 mr (9223372036854775807)) rfl) ?_
      rintro v7_3 H7_3 ⟨n7_3, l7_3, bad7_3, hw7_3, hn7_3, rfl, hU7_3⟩
      have ho := ho.offU mr hU7_3.but (.inl rfl)
      have hX := hX.upd hU7_3.but grd
      have mr := hU7_3.blk
      refine xl_pure rfl rfl rfl (pv_move (v := .pointer _) rfl rfl) ?_
      refine xl_heavy rfl rfl rfl (hv_call (g := 34) rfl rfl (p15 mr (9223372036854775807)) rfl) ?_
      rintro v7_5 H7_5 ⟨n7_5, l7_5, bad7_5, hw7_5, hn7_5, rfl, hU7_5⟩
      have ho := ho.offU mr hU7_5.but (.inl rfl)
      have hX := hX.upd hU7_5.but grd
      have mr := hU7_5.blk
      refine xl_pure rfl rfl rfl (pv_move (v := .pointer _) rfl rfl) ?_
      refine xl_heavy rfl rfl rfl (hv_call (g := 34) rfl rfl (p15 mr (9223372036854775807)) rfl) ?_
      rintro v7_7 H7_7 ⟨n7_7, l7_7, bad7_7, hw7_7, hn7_7, rfl, hU7_7⟩
      have ho := ho.offU mr hU7_7.but (.inl rfl)
      have hX := hX.upd hU7_7.but grd
      have mr := hU7_7.blk
      refine xl_pure rfl rfl rfl (pv_build_s (cs := [.int _ _, .int _ _, .int _ _, .int _ _]) rfl rfl rfl) ?_
      refine xl_heavy rfl rfl rfl (hv_buildSlice (cs := [.int _ _, .int _ _, .int _ _, .int _ _]) rfl rfl rfl rfl rfl) ?_
      rintro v7_9 H7_9 ⟨b7_9, rfl, hN7_9⟩
      have gb7_9 := hX.fresh hN7_9
      have nmr_7_9 := mr.apart hN7_9
      have pm7_9_ho := ho.apartN hN7_9
      have mr := mr.ext hN7_9.ext
      have ho := ho.ext hN7_9.ext
      have hX := hX.trans hN7_9.ext
      have m7_9 := hN7_9.blk
      refine xl_heavy rfl rfl rfl (hv_append rfl rfl ho rfl (m7_9.row) rfl (by simp [Value.oneCell']) rfl (by decide) (by omega) (by omega) hX.size) ?_
      rintro v7_10 H7_10 ⟨hO7_10, hG7_10, -, hB7_10⟩
      have mr := mr.offT ho hG7_10 rfl
      have hX := ho.grown hX hG7_10 (Nat.le_refl _)
      obtain ⟨a7_10, c7_10, rfl⟩ := hO7_10.val
      refine xl_pure rfl rfl rfl (pv_assign (v := .slice _ _ _) rfl rfl) ?_
      refine xl_nil ?_
      refine xblock_normal ?_
      refine xthen_normal ?_
      refine xc_region ?_
      refine xl_pure rfl rfl rfl (pv_add rfl rfl rfl (fit_i64 (by omega))) ?_
      refine xl_pure rfl rfl rfl (pv_move (v := .int _ _) rfl rfl) ?_
      refine xl_nil ?_
      refine xthen_normal ?_
      exact ⟨(rows ++ [[at0 + n6_2, n7_3, n7_5, n7_7]], at0 + n6_2, _, _, k + 1, _), ⟨rfl, rfl, rfl, rfl, rfl, trivial⟩, ⟨by (try simp only); omega, rdN_succ hrd hw6_2 hw7_3 hw7_5 hw7_7, by (try simp only); omega, by simp [hrl], wide_snoc hwd rfl, mr, by simpa [fr_snoc, ints] using hO7_10, hX⟩, by (try simp only); omega⟩
    · skip
      refine xl_nil ?_
      refine xthen_normal ?_
      refine xc_seq ?_
      refine xc_cond_f rfl ?_
      refine xc_exit ?_
      refine xthen_exit ?_
      refine xthen_exit ?_
      refine xblock_same ?_
      refine xthen_normal ?_
      refine xc_seq ?_
      refine xc_seq ?_
      have hn128 : (n4_1 : Int) ≤ 128 := uintS_le (by decide) hw4_1
      have hkn : k = n4_1 := by omega
      refine xc_region ?_
      refine xl_pure rfl rfl rfl (pv_move (v := .slice _ _ _) rfl rfl) ?_
      refine xl_heavy rfl rfl rfl (hv_call (g := 12) rfl rfl (c12 rows va5 vc5 (own_rows hwd ho) (by omega)) rfl) ?_
      rintro v9_1 H9_1 ⟨hc9_1, hE9_1⟩
      have mr := mr.ext hE9_1
      have ho := ho.ext hE9_1
      have hX := hX.trans hE9_1
      rcases hc9_1 with ⟨rfl, hld⟩ | ⟨p, va, vc, mv, x, rfl, hld, -⟩
      · skip
        refine xl_pure rfl rfl rfl (pv_move (v := .tuple _) rfl rfl) ?_
        refine xl_pure rfl rfl rfl (pv_extract (v := .pointer _) rfl rfl rfl) ?_
        refine xl_pure rfl rfl rfl (pv_extract (v := .int _ _) rfl rfl rfl) ?_
        refine xl_pure rfl rfl rfl (pv_assign (v := .pointer _) rfl rfl) ?_
        refine xl_pure rfl rfl rfl (pv_assign (v := .int _ _) rfl rfl) ?_
        refine xl_nil ?_
        refine xthen_normal ?_
        refine xc_seq ?_
        refine xc_region ?_
        refine xl_pure rfl rfl rfl (pv_move (v := .int _ _) rfl rfl) ?_
        refine xl_ndec rfl rfl rfl (pv_neq rfl rfl rfl) (fun h10_1 => ?_) (fun h10_1 => ?_)
        · exact absurd h10_1 (by decide)
        · skip
          refine xl_pure rfl rfl rfl (pv_move (v := .bool _) rfl rfl) ?_
          refine xl_skip rfl rfl rfl ?_
          refine xl_skip rfl rfl rfl ?_
          refine xl_skip rfl rfl rfl ?_
          refine xl_pure rfl rfl rfl (pv_pick_t (v := .bool _) rfl rfl rfl) ?_
          refine xl_nil ?_
          refine xthen_normal ?_
          refine xc_cond_t rfl ?_
          refine xc_seq ?_
          refine xc_region ?_
          refine xl_pure rfl rfl rfl (pv_assign (v := .slice _ _ _) rfl rfl) ?_
          refine xl_pure rfl rfl rfl (pv_assign (v := .int _ _) rfl rfl) ?_
          refine xl_nil ?_
          refine xthen_normal ?_
          refine xc_ret ?_
          refine xthen_ret ?_
          refine fin_ret (res2 (v := .slice _ _ _) (x := .int _ _) rfl rfl rfl) ?_
          first
            | exact ⟨2, [], none, 0, rfl, take_no hw4_1 (hkn ▸ hrd) (.inr hld), rows_nil, by decide, hX⟩
            | exact ⟨2, [], none, 0, rfl, take_no hw4_1 (hkn ▸ hrd) (.inl hdn), rows_nil, by decide, hX⟩
      · skip
        refine xl_pure rfl rfl rfl (pv_move (v := .tuple _) rfl rfl) ?_
        refine xl_pure rfl rfl rfl (pv_extract (v := .pointer _) rfl rfl rfl) ?_
        refine xl_pure rfl rfl rfl (pv_extract (v := .int _ _) rfl rfl rfl) ?_
        refine xl_pure rfl rfl rfl (pv_assign (v := .pointer _) rfl rfl) ?_
        refine xl_pure rfl rfl rfl (pv_assign (v := .int _ _) rfl rfl) ?_
        refine xl_nil ?_
        refine xthen_normal ?_
        refine xc_seq ?_
        refine xc_region ?_
        refine xl_pure rfl rfl rfl (pv_move (v := .int _ _) rfl rfl) ?_
        refine xl_ndec rfl rfl rfl (pv_neq rfl rfl rfl) (fun h10_1 => ?_) (fun h10_1 => ?_)
        · skip
          refine xl_pure rfl rfl rfl (pv_move (v := .bool _) rfl rfl) ?_
          refine xl_pure rfl rfl rfl (pv_move (v := .pointer _) rfl rfl) ?_
          refine xl_heavy rfl rfl rfl (hv_call (g := 35) rfl rfl (p26 mr) rfl) ?_
          rintro v10_4 H10_4 ⟨rfl, rfl⟩
          cases hdn : doneS (l0, bad0)
          · skip
            refine xl_pure rfl rfl rfl (pv_not rfl rfl) ?_
            refine xl_pure rfl rfl rfl (pv_pick_f (v := .bool _) rfl rfl rfl) ?_
            refine xl_nil ?_
            refine xthen_normal ?_
            refine xc_cond_t rfl ?_
            refine xc_seq ?_
            refine xc_region ?_
            refine xl_pure rfl rfl rfl (pv_assign (v := .slice _ _ _) rfl rfl) ?_
            refine xl_pure rfl rfl rfl (pv_assign (v := .int _ _) rfl rfl) ?_
            refine xl_nil ?_
            refine xthen_normal ?_
            refine xc_ret ?_
            refine xthen_ret ?_
            refine fin_ret (res2 (v := .slice _ _ _) (x := .int _ _) rfl rfl rfl) ?_
            first
              | exact ⟨2, [], none, 0, rfl, take_no hw4_1 (hkn ▸ hrd) (.inr hld), rows_nil, by decide, hX⟩
              | exact ⟨2, [], none, 0, rfl, take_no hw4_1 (hkn ▸ hrd) (.inl hdn), rows_nil, by decide, hX⟩
          · skip
            refine xl_pure rfl rfl rfl (pv_not rfl rfl) ?_
            refine xl_pure rfl rfl rfl (pv_pick_f (v := .bool _) rfl rfl rfl) ?_
            refine xl_nil ?_
            refine xthen_normal ?_
            refine xc_cond_f rfl ?_
            refine xc_skip ?_
            refine xthen_normal ?_
            refine xc_seq ?_
            refine xc_region ?_
            refine xl_pure rfl rfl rfl (pv_move (v := .slice _ _ _) rfl rfl) ?_
            refine xl_pure rfl rfl rfl (pv_assign (v := .slice _ _ _) rfl rfl) ?_
            refine xl_pure rfl rfl rfl (pv_assign (v := .int _ _) rfl rfl) ?_
            refine xl_nil ?_
            refine xthen_normal ?_
            refine xc_ret ?_
            refine fin_ret (res2 (v := .slice _ _ _) (x := .int _ _) rfl rfl rfl) ?_
            exact ⟨0, rows, va5, vc5, rfl, take_ok hw4_1 (hkn ▸ hrd) hdn hld, own_rows hwd ho, by omega, hX⟩
        · exact absurd (by decide) h10_1

theorem c23 {O : Outer} {H : Heap} (s : List UInt8) (hs : s.length < 4611686018427387904) :
    FnC Try.prog 23 #[.string (bs s)] O H (fun v H' => ∃ e x a c, v = .tuple #[.slice a (List.length x) c, .int .i64 e] ∧ takeS s = (e, x) ∧ Rows H' a 4 x ∧ x.length ≤ 128 ∧ Ext H H') := by
  refine fn_enter (A := [.string (bs s)]) Try.func23 rfl rfl ?_
  have hX := Ext.refl H
  refine xc_seq ?_
  refine xc_region ?_
  refine xl_pure rfl rfl rfl (pv_assign (v := .slice _ _ _) rfl rfl) ?_
  refine xl_pure rfl rfl rfl (pv_assign (v := .int _ _) rfl rfl) ?_
  refine xl_nil ?_
  refine xthen_normal ?_
  refine xc_seq ?_
  refine xc_region ?_
  refine xl_pure rfl rfl rfl (pv_move (v := .string (bs _)) rfl rfl) ?_
  refine xl_pure rfl rfl rfl (pv_build_s (cs := [.string (bs _), .int _ _, .bool _]) rfl rfl rfl) ?_
  refine xl_heavy rfl rfl rfl (hv_box rfl rfl) ?_
  rintro v1_2 H1_2 ⟨b1_2, rfl, hN1_2⟩
  have gb1_2 := hX.fresh hN1_2
  have hX := hX.trans hN1_2.ext
  have m1_2 := hN1_2.blk
  refine xl_pure rfl rfl rfl (pv_assign (v := .pointer _) rfl rfl) ?_
  refine xl_nil ?_
  refine xthen_normal ?_
  refine xc_seq ?_
  refine xc_region ?_
  refine xl_pure rfl rfl rfl (pv_move (v := .pointer _) rfl rfl) ?_
  refine xl_heavy rfl rfl rfl (hv_call (g := 36) rfl rfl (p16 (i := 0) m1_2 (Nat.zero_le _) hs (128)) rfl) ?_
  rintro v2_1 H2_1 ⟨n2_1, i2_1, bad2_1, hw2_1, hi2_1, rfl, hn2_1, hU2_1⟩
  have hX := hX.upd hU2_1.but gb1_2
  have m1_2 := hU2_1.blk
  refine xl_pure rfl rfl rfl (pv_assign (v := .int _ _) rfl rfl) ?_
  refine xl_nil ?_
  refine xthen_normal ?_
  refine xc_seq ?_
  refine xc_region ?_
  refine xl_pure rfl rfl rfl (pv_assign (v := .slice _ _ _) rfl rfl) ?_
  refine xl_nil ?_
  refine xthen_normal ?_
  refine xc_seq ?_
  refine xc_region ?_
  refine xl_pure rfl rfl rfl (pv_assign (v := .int _ _) rfl rfl) ?_
  refine xl_nil ?_
  refine xthen_normal ?_
  refine xc_seq ?_
  refine xc_seq ?_
  refine xc_region ?_
  refine xl_pure rfl rfl rfl (pv_assign (v := .int _ _) rfl rfl) ?_
  refine xl_nil ?_
  refine xthen_normal ?_
  refine xc_block ?_
  refine xc_loop (τ := List (List Int) × Int × Nat × Bool × Nat × Value) (fun t => [(4, .pointer (some ⟨b1_2, 0, none⟩)), (5, .int .i64 (n2_1 : Nat)), (6, t.2.2.2.2.2), (7, .int .i64 t.2.1), (8, .int .i64 (t.2.2.2.2.1 : Nat))]) (fun t H' => (t.2.2.2.2.1 ≤ n2_1) ∧ (rdN t.2.2.2.2.1 (s.drop i2_1, bad2_1) = (t.1, t.2.1, (s.drop t.2.2.1, t.2.2.2.1))) ∧ (t.2.2.1 ≤ s.length) ∧ (0 ≤ t.2.1 ∧ t.2.1 ≤ 1099511627776 * t.2.2.2.2.1) ∧ (t.1.length = t.2.2.2.2.1) ∧ (Wide 4 t.1) ∧ (Blk H' b1_2 [.string (bs s), .int .i64 (t.2.2.1 : Nat), .bool t.2.2.2.1] 67) ∧ (Own H' H.size 29 4 t.2.2.2.2.2 t.1.length (fr t.1)) ∧ (Ext H H')) (fun t H' => n2_1 - t.2.2.2.2.1) ([], 0, i2_1, bad2_1, 0, .slice none 0 0) ?_ ?_ ?_
  · exact ⟨rfl, rfl, rfl, rfl, rfl, trivial⟩
  · skip
    exact ⟨Nat.zero_le _, rfl, hi2_1, by (try simp only); omega, rfl, wide_nil, m1_2, Own.nil .., hX⟩
  · intro σ
    clear hX m1_2
    rintro ⟨rows, at0, i0, bad0, k, vo6⟩ Hl6 ⟨hk, hrd, hi0, hat, hrl, hwd, m1_2, ho, hX⟩
    replace hk : k ≤ n2_1 := hk
    replace hrd : rdN k (s.drop i2_1, bad2_1) = (rows, at0, (s.drop i0, bad0)) := hrd
    replace hi0 : i0 ≤ s.length := hi0
    replace hat : 0 ≤ at0 ∧ at0 ≤ 1099511627776 * k := hat
    replace hrl : rows.length = k := hrl
    replace hwd : Wide 4 rows := hwd
    replace m1_2 : Blk Hl6 b1_2 [.string (bs s), .int .i64 (i0 : Nat), .bool bad0] 67 := m1_2
    replace ho : Own Hl6 H.size 29 4 vo6 rows.length (fr rows) := ho
    replace hX : Ext H Hl6 := hX
    obtain ⟨va6, vc6, rfl⟩ := ho.val
    show XC _ _ _ (upds σ [(4, .pointer (some ⟨b1_2, 0, none⟩)), (5, .int .i64 (n2_1 : Nat)), (6, .slice va6 rows.length vc6), (7, .int .i64 at0), (8, .int .i64 (k : Nat))]) _
    refine xc_seq ?_
    refine xc_seq ?_
    refine xc_region ?_
    refine xl_pure rfl rfl rfl (pv_move (v := .int _ _) rfl rfl) ?_
    refine xl_pure rfl rfl rfl (pv_move (v := .int _ _) rfl rfl) ?_
    refine xl_dec rfl rfl rfl (pv_lss rfl rfl rfl) (fun h6_2 => ?_) (fun h6_2 => ?_)
    · skip
      refine xl_pure rfl rfl rfl (pv_move (v := .bool _) rfl rfl) ?_
      refine xl_pure rfl rfl rfl (pv_move (v := .pointer _) rfl rfl) ?_
      refine xl_pure rfl rfl rfl (pv_nilCheck_p rfl rfl) ?_
      refine xl_pure rfl rfl rfl (pv_fieldAddr rfl rfl) ?_
      refine xl_light rfl rfl rfl (lv_load (v := .bool _) rfl rfl (ld_blk m1_2 rfl)) ?_
      cases bad0
      · skip
        refine xl_pure rfl rfl rfl (pv_not rfl rfl) ?_
        refine xl_pure rfl rfl rfl (pv_pick_t (v := .bool _) rfl rfl rfl) ?_
        refine xl_nil ?_
        refine xthen_normal ?_
        refine xc_cond_t rfl ?_
        refine xc_skip ?_
        refine xthen_normal ?_
        refine xc_seq ?_
        refine xc_block ?_
        refine xc_seq ?_
        have hn128 : (n2_1 : Int) ≤ 128 := uintS_le (by decide) hw2_1
        refine xc_region ?_
        refine xl_pure rfl rfl rfl (pv_move (v := .int _ _) rfl rfl) ?_
        refine xl_pure rfl rfl rfl (pv_move (v := .pointer _) rfl rfl) ?_
        refine xl_heavy rfl rfl rfl (hv_call (g := 36) rfl rfl (p16 (i := i0) m1_2 hi0 hs (1099511627776)) rfl) ?_
        rintro v8_2 H8_2 ⟨n8_2, i8_2, bad8_2, hw8_2, hi8_2, rfl, hn8_2, hU8_2⟩
        have ho := ho.offU m1_2 hU8_2.but (.inl rfl)
        have hX := hX.upd hU8_2.but gb1_2
        have m1_2 := hU8_2.blk
        have hb6 : (n8_2 : Int) ≤ 1099511627776 := uintS_le (by decide) hw8_2
        refine xl_pure rfl rfl rfl (pv_add rfl rfl rfl (fit_i64 (by omega))) ?_
        refine xl_pure rfl rfl rfl (pv_build_s (cs := [.int _ _, .int _ _, .int _ _, .int _ _]) rfl rfl rfl) ?_
        refine xl_heavy rfl rfl rfl (hv_alloc rfl rfl) ?_
        rintro v8_5 H8_5 ⟨b8_5, rfl, hN8_5⟩
        have gb8_5 := hX.fresh hN8_5
        have nm1_2_8_5 := m1_2.apart hN8_5
        have pm8_5_ho := ho.apartN hN8_5
        have m1_2 := m1_2.ext hN8_5.ext
        have ho := ho.ext hN8_5.ext
        have hX := hX.trans hN8_5.ext
        have m8_5 := hN8_5.blk
        refine xl_store rfl rfl (hv_storeA (vs := [.int _ _, .int _ _, .int _ _, .int _ _]) rfl rfl rfl (m8_5) rfl (by rfl) rfl) ?_
        rintro v8_6 H8_6 ⟨hU8_6, hZ8_6⟩
        have m1_2 := m1_2.off hU8_6.but (nm1_2_8_5)
        have ho := ho.offU m8_5 hU8_6.but (.inr pm8_5_ho)
        have hX := hX.upd hU8_6.but gb8_5
        have m8_5 := hU8_6.blk
        refine xl_nil ?_
        refine xthen_normal ?_
        refine xc_seq ?_
        refine xc_region ?_
        refine xl_pure rfl rfl rfl (pv_move (v := .pointer _) rfl rfl) ?_
        refine xl_heavy rfl rfl rfl (hv_call (g := 36) rfl rfl (p16 (i := i8_2) m1_2 hi8_2 hs (9223372036854775807)) rfl) ?_
        rintro v9_1 H9_1 ⟨n9_1, i9_1, bad9_1, hw9_1, hi9_1, rfl, hn9_1, hU9_1⟩
        have ho := ho.offU m1_2 hU9_1.but (.inl rfl)
        have m8_5 := m8_5.off hU9_1.but (nm1_2_8_5.symm)
        have hX := hX.upd hU9_1.but gb1_2
        have m1_2 := hU9_1.blk
        refine xl_pure rfl rfl rfl (pv_fieldAddr rfl rfl) ?_
        refine xl_store rfl rfl (hv_store (vs := [.int _ _]) rfl rfl rfl (m8_5) rfl (Nat.le_of_ble_eq_true rfl) rfl) ?_
        rintro v9_3 H9_3 ⟨hU9_3, hZ9_3⟩
        have m1_2 := m1_2.off hU9_3.but (nm1_2_8_5)
        have ho := ho.offU m8_5 hU9_3.but (.inr pm8_5_ho)
        have hX := hX.upd hU9_3.but gb8_5
        have m8_5 := hU9_3.blk
        refine xl_nil ?_
        refine xthen_normal ?_
        refine xc_seq ?_
        refine xc_region ?_
        refine xl_pure rfl rfl rfl (pv_move (v := .pointer _) rfl rfl) ?_
        refine xl_heavy rfl rfl rfl (hv_call (g := 36) rfl rfl (p16 (i := i9_1) m1_2 hi9_1 hs (9223372036854775807)) rfl) ?_
        rintro v10_1 H10_1 ⟨n10_1, i10_1, bad10_1, hw10_1, hi10_1, rfl, hn10_1, hU10_1⟩
        have ho := ho.offU m1_2 hU10_1.but (.inl rfl)
        have m8_5 := m8_5.off hU10_1.but (nm1_2_8_5.symm)
        have hX := hX.upd hU10_1.but gb1_2
        have m1_2 := hU10_1.blk
        refine xl_pure rfl rfl rfl (pv_fieldAddr rfl rfl) ?_
        refine xl_store rfl rfl (hv_store (vs := [.int _ _]) rfl rfl rfl (m8_5) rfl (Nat.le_of_ble_eq_true rfl) rfl) ?_
        rintro v10_3 H10_3 ⟨hU10_3, hZ10_3⟩
        have m1_2 := m1_2.off hU10_3.but (nm1_2_8_5)
        have ho := ho.offU m8_5 hU10_3.but (.inr pm8_5_ho)
        have hX := hX.upd hU10_3.but gb8_5
        have m8_5 := hU10_3.blk
        refine xl_nil ?_
        refine xthen_normal ?_
        refine xc_seq ?_
        refine xc_region ?_
        refine xl_pure rfl rfl rfl (pv_move (v := .pointer _) rfl rfl) ?_
        refine xl_heavy rfl rfl rfl (hv_call (g := 36) rfl rfl (p16 (i := i10_1) m1_2 hi10_1 hs (9223372036854775807)) rfl) ?_
        rintro v11_1 H11_1 ⟨n11_1, i11_1, bad11_1, hw11_1, hi11_1, rfl, hn11_1, hU11_1⟩
        have ho := ho.offU m1_2 hU11_1.but (.inl rfl)
        have m8_5 := m8_5.off hU11_1.but (nm1_2_8_5.symm)
        have hX := hX.upd hU11_1.but gb1_2
        have m1_2 := hU11_1.blk
        refine xl_pure rfl rfl rfl (pv_fieldAddr rfl rfl) ?_
        refine xl_store rfl rfl (hv_store (vs := [.int _ _]) rfl rfl rfl (m8_5) rfl (Nat.le_of_ble_eq_true rfl) rfl) ?_
        rintro v11_3 H11_3 ⟨hU11_3, hZ11_3⟩
        have m1_2 := m1_2.off hU11_3.but (nm1_2_8_5)
        have ho := ho.offU m8_5 hU11_3.but (.inr pm8_5_ho)
        have hX := hX.upd hU11_3.but gb8_5
        have m8_5 := hU11_3.blk
        refine xl_nil ?_
        refine xthen_normal ?_
        refine xc_seq ?_
        refine xc_region ?_
        refine xl_pure rfl rfl rfl (pv_fieldAddr rfl rfl) ?_
        refine xl_light rfl rfl rfl (lv_load (v := .int _ _) rfl rfl (ld_blk m8_5 rfl)) ?_
        refine xl_pure rfl rfl rfl (pv_assign (v := .int _ _) rfl rfl) ?_
        refine xl_nil ?_
        refine xthen_normal ?_
        refine xc_region ?_
        refine xl_pure rfl rfl rfl (pv_move (v := .slice _ _ _) rfl rfl) ?_
        refine xl_light rfl rfl rfl (lv_load (v := .agg _) rfl rfl (ld_blk_a m8_5 rfl rfl)) ?_
        refine xl_heavy rfl rfl rfl (hv_buildSlice (cs := [.int _ _, .int _ _, .int _ _, .int _ _]) rfl rfl rfl rfl rfl) ?_
        rintro v13_2 H13_2 ⟨b13_2, rfl, hN13_2⟩
        have gb13_2 := hX.fresh hN13_2
        have nm1_2_13_2 := m1_2.apart hN13_2
        have pm13_2_ho := ho.apartN hN13_2
        have nm8_5_13_2 := m8_5.apart hN13_2
        have m1_2 := m1_2.ext hN13_2.ext
        have ho := ho.ext hN13_2.ext
        have m8_5 := m8_5.ext hN13_2.ext
        have hX := hX.trans hN13_2.ext
        have m13_2 := hN13_2.blk
        refine xl_heavy rfl rfl rfl (hv_append rfl rfl ho rfl (m13_2.row) rfl (by simp [Value.oneCell']) rfl (by decide) (by omega) (by omega) hX.size) ?_
        rintro v13_3 H13_3 ⟨hO13_3, hG13_3, -, hB13_3⟩
        have m1_2 := m1_2.offT ho hG13_3 rfl
        have lt_m8_5_13_3 := m8_5.lt
        have m8_5 := m8_5.offA hG13_3 (pm8_5_ho)
        have hX := ho.grown hX hG13_3 (Nat.le_refl _)
        have pm8_5_hO13_3 := OwnApart.grown pm8_5_ho hB13_3 (lt_m8_5_13_3)
        obtain ⟨a13_3, c13_3, rfl⟩ := hO13_3.val
        refine xl_pure rfl rfl rfl (pv_assign (v := .slice _ _ _) rfl rfl) ?_
        refine xl_nil ?_
        refine xblock_normal ?_
        refine xthen_normal ?_
        refine xc_region ?_
        refine xl_pure rfl rfl rfl (pv_move (v := .int _ _) rfl rfl) ?_
        refine xl_pure rfl rfl rfl (pv_add rfl rfl rfl (fit_i64 (by omega))) ?_
        refine xl_pure rfl rfl rfl (pv_assign (v := .int _ _) rfl rfl) ?_
        refine xl_nil ?_
        refine xthen_normal ?_
        exact ⟨(rows ++ [[at0 + n8_2, n9_1, n10_1, n11_1]], at0 + n8_2, _, _, k + 1, _), ⟨rfl, rfl, rfl, rfl, rfl, trivial⟩, ⟨by (try simp only); omega, rdN_succ hrd hw8_2 hw9_1 hw10_1 hw11_1, hi11_1, by (try simp only); omega, by simp [hrl], wide_snoc hwd rfl, m1_2, by simpa [fr_snoc, ints] using hO13_3, hX⟩, by (try simp only); omega⟩
      · skip
        refine xl_pure rfl rfl rfl (pv_not rfl rfl) ?_
        refine xl_pure rfl rfl rfl (pv_pick_t (v := .bool _) rfl rfl rfl) ?_
        refine xl_nil ?_
        refine xthen_normal ?_
        refine xc_cond_f rfl ?_
        refine xc_exit ?_
        refine xthen_exit ?_
        refine xthen_exit ?_
        refine xblock_same ?_
        refine xthen_normal ?_
        refine xc_seq ?_
        have hn128 : (n2_1 : Int) ≤ 128 := uintS_le (by decide) hw2_1
        refine xc_region ?_
        refine xl_pure rfl rfl rfl (pv_move (v := .slice _ _ _) rfl rfl) ?_
        refine xl_heavy rfl rfl rfl (hv_call (g := 13) rfl rfl (c13 rows va6 vc6 (own_rows hwd ho) (by omega)) rfl) ?_
        rintro v14_1 H14_1 ⟨e14_1, x14_1, a14_1, c14_1, rfl, hc14_1, hr14_1, hxl, hxz, hn14_1, hE14_1⟩
        have m1_2 := m1_2.ext hE14_1
        have ho := ho.ext hE14_1
        have hX := hX.trans hE14_1
        rcases hc14_1 with ⟨rfl, hld⟩ | ⟨rfl, hld⟩
        · skip
          refine xl_pure rfl rfl rfl (pv_move (v := .tuple _) rfl rfl) ?_
          refine xl_pure rfl rfl rfl (pv_extract (v := .slice _ _ _) rfl rfl rfl) ?_
          refine xl_pure rfl rfl rfl (pv_extract (v := .int _ _) rfl rfl rfl) ?_
          refine xl_pure rfl rfl rfl (pv_assign (v := .slice _ _ _) rfl rfl) ?_
          refine xl_pure rfl rfl rfl (pv_assign (v := .int _ _) rfl rfl) ?_
          refine xl_nil ?_
          refine xthen_normal ?_
          refine xc_seq ?_
          refine xc_seq ?_
          refine xc_region ?_
          refine xl_pure rfl rfl rfl (pv_move (v := .pointer _) rfl rfl) ?_
          refine xl_heavy rfl rfl rfl (hv_call (g := 37) rfl rfl (p27 m1_2 hi0) rfl) ?_
          rintro v15_1 H15_1 ⟨rfl, rfl⟩
          cases hdn : doneS (s.drop i0, true)
          · skip
            refine xl_pure rfl rfl rfl (pv_not rfl rfl) ?_
            refine xl_pure rfl rfl rfl (pv_move (v := .bool _) rfl rfl) ?_
            refine xl_skip rfl rfl rfl ?_
            refine xl_skip rfl rfl rfl ?_
            refine xl_pure rfl rfl rfl (pv_pick_t (v := .bool _) rfl rfl rfl) ?_
            refine xl_nil ?_
            refine xthen_normal ?_
            refine xc_cond_t rfl ?_
            refine xc_seq ?_
            refine xc_region ?_
            refine xl_pure rfl rfl rfl (pv_assign (v := .slice _ _ _) rfl rfl) ?_
            refine xl_pure rfl rfl rfl (pv_assign (v := .int _ _) rfl rfl) ?_
            refine xl_nil ?_
            refine xthen_normal ?_
            refine xc_ret ?_
            refine xthen_ret ?_
            refine fin_ret (res2 (v := .slice _ _ _) (x := .int _ _) rfl rfl rfl) ?_
            first
              | exact ⟨2, [], none, 0, rfl, take_no hw2_1 ((show k = n2_1 by omega) ▸ hrd) (.inr hld), rows_nil, by decide, hX⟩
              | exact ⟨2, [], none, 0, rfl, take_no hw2_1 ((show k = n2_1 by omega) ▸ hrd) (.inl hdn), rows_nil, by decide, hX⟩
              | exact ⟨2, [], none, 0, rfl, take_bad hw2_1 hk hrd, rows_nil, by decide, hX⟩
          · skip
            refine xl_pure rfl rfl rfl (pv_not rfl rfl) ?_
            refine xl_pure rfl rfl rfl (pv_move (v := .bool _) rfl rfl) ?_
            refine xl_pure rfl rfl rfl (pv_move (v := .int _ _) rfl rfl) ?_
            refine xl_ndec rfl rfl rfl (pv_neq rfl rfl rfl) (fun h15_5 => ?_) (fun h15_5 => ?_)
            · skip
              refine xl_pure rfl rfl rfl (pv_pick_f (v := .bool _) rfl rfl rfl) ?_
              refine xl_nil ?_
              refine xthen_normal ?_
              refine xc_cond_f rfl ?_
              refine xc_skip ?_
              refine xthen_normal ?_
              refine xc_seq ?_
              refine xc_region ?_
              refine xl_pure rfl rfl rfl (pv_move (v := .slice _ _ _) rfl rfl) ?_
              refine xl_pure rfl rfl rfl (pv_assign (v := .slice _ _ _) rfl rfl) ?_
              refine xl_pure rfl rfl rfl (pv_assign (v := .int _ _) rfl rfl) ?_
              refine xl_nil ?_
              refine xthen_normal ?_
              refine xc_ret ?_
              refine fin_ret (res2 (v := .slice _ _ _) (x := .int _ _) rfl rfl rfl) ?_
              first
                | exact absurd hdn done_bad
                | exact ⟨0, rows, a14_1, c14_1, by rw [(load_self hwd hld).1], take_ok hw2_1 ((show k = n2_1 by omega) ▸ hrd) hdn hld, by rw [← (load_self hwd hld).1]; exact hr14_1, by omega, hX⟩
            · exact absurd (by decide) h15_5
        · skip
          refine xl_pure rfl rfl rfl (pv_move (v := .tuple _) rfl rfl) ?_
          refine xl_pure rfl rfl rfl (pv_extract (v := .slice _ _ _) rfl rfl rfl) ?_
          refine xl_pure rfl rfl rfl (pv_extract (v := .int _ _) rfl rfl rfl) ?_
          refine xl_pure rfl rfl rfl (pv_assign (v := .slice _ _ _) rfl rfl) ?_
          refine xl_pure rfl rfl rfl (pv_assign (v := .int _ _) rfl rfl) ?_
          refine xl_nil ?_
          refine xthen_normal ?_
          refine xc_seq ?_
          refine xc_seq ?_
          refine xc_region ?_
          refine xl_pure rfl rfl rfl (pv_move (v := .pointer _) rfl rfl) ?_
          refine xl_heavy rfl rfl rfl (hv_call (g := 37) rfl rfl (p27 m1_2 hi0) rfl) ?_
          rintro v15_1 H15_1 ⟨rfl, rfl⟩
          cases hdn : doneS (s.drop i0, true)
          · skip
            refine xl_pure rfl rfl rfl (pv_not rfl rfl) ?_
            refine xl_pure rfl rfl rfl (pv_move (v := .bool _) rfl rfl) ?_
            refine xl_skip rfl rfl rfl ?_
            refine xl_skip rfl rfl rfl ?_
            refine xl_pure rfl rfl rfl (pv_pick_t (v := .bool _) rfl rfl rfl) ?_
            refine xl_nil ?_
            refine xthen_normal ?_
            refine xc_cond_t rfl ?_
            refine xc_seq ?_
            refine xc_region ?_
            refine xl_pure rfl rfl rfl (pv_assign (v := .slice _ _ _) rfl rfl) ?_
            refine xl_pure rfl rfl rfl (pv_assign (v := .int _ _) rfl rfl) ?_
            refine xl_nil ?_
            refine xthen_normal ?_
            refine xc_ret ?_
            refine xthen_ret ?_
            refine fin_ret (res2 (v := .slice _ _ _) (x := .int _ _) rfl rfl rfl) ?_
            first
              | exact ⟨2, [], none, 0, rfl, take_no hw2_1 ((show k = n2_1 by omega) ▸ hrd) (.inr hld), rows_nil, by decide, hX⟩
              | exact ⟨2, [], none, 0, rfl, take_no hw2_1 ((show k = n2_1 by omega) ▸ hrd) (.inl hdn), rows_nil, by decide, hX⟩
              | exact ⟨2, [], none, 0, rfl, take_bad hw2_1 hk hrd, rows_nil, by decide, hX⟩
          · skip
            refine xl_pure rfl rfl rfl (pv_not rfl rfl) ?_
            refine xl_pure rfl rfl rfl (pv_move (v := .bool _) rfl rfl) ?_
            refine xl_pure rfl rfl rfl (pv_move (v := .int _ _) rfl rfl) ?_
            refine xl_ndec rfl rfl rfl (pv_neq rfl rfl rfl) (fun h15_5 => ?_) (fun h15_5 => ?_)
            · exact absurd h15_5 (by decide)
            · skip
              refine xl_pure rfl rfl rfl (pv_pick_f (v := .bool _) rfl rfl rfl) ?_
              refine xl_nil ?_
              refine xthen_normal ?_
              refine xc_cond_t rfl ?_
              refine xc_seq ?_
              refine xc_region ?_
              refine xl_pure rfl rfl rfl (pv_assign (v := .slice _ _ _) rfl rfl) ?_
              refine xl_pure rfl rfl rfl (pv_assign (v := .int _ _) rfl rfl) ?_
              refine xl_nil ?_
              refine xthen_normal ?_
              refine xc_ret ?_
              refine xthen_ret ?_
              refine fin_ret (res2 (v := .slice _ _ _) (x := .int _ _) rfl rfl rfl) ?_
              first
                | exact ⟨2, [], none, 0, rfl, take_no hw2_1 ((show k = n2_1 by omega) ▸ hrd) (.inr hld), rows_nil, by decide, hX⟩
                | exact ⟨2, [], none, 0, rfl, take_no hw2_1 ((show k = n2_1 by omega) ▸ hrd) (.inl hdn), rows_nil, by decide, hX⟩
                | exact ⟨2, [], none, 0, rfl, take_bad hw2_1 hk hrd, rows_nil, by decide, hX⟩
    · skip
      refine xl_pure rfl rfl rfl (pv_move (v := .bool _) rfl rfl) ?_
      refine xl_skip rfl rfl rfl ?_
      refine xl_skip rfl rfl rfl ?_
      refine xl_skip rfl rfl rfl ?_
      refine xl_skip rfl rfl rfl ?_
      refine xl_skip rfl rfl rfl ?_
      refine xl_pure rfl rfl rfl (pv_pick_f (v := .bool _) rfl rfl rfl) ?_
      refine xl_nil ?_
      refine xthen_normal ?_
      refine xc_cond_f rfl ?_
      refine xc_exit ?_
      refine xthen_exit ?_
      refine xthen_exit ?_
      refine xblock_same ?_
      refine xthen_normal ?_
      refine xc_seq ?_
      have hn128 : (n2_1 : Int) ≤ 128 := uintS_le (by decide) hw2_1
      refine xc_region ?_
      refine xl_pure rfl rfl rfl (pv_move (v := .slice _ _ _) rfl rfl) ?_
      refine xl_heavy rfl rfl rfl (hv_call (g := 13) rfl rfl (c13 rows va6 vc6 (own_rows hwd ho) (by omega)) rfl) ?_
      rintro v14_1 H14_1 ⟨e14_1, x14_1, a14_1, c14_1, rfl, hc14_1, hr14_1, hxl, hxz, hn14_1, hE14_1⟩
      have m1_2 := m1_2.ext hE14_1
      have ho := ho.ext hE14_1
      have hX := hX.trans hE14_1
      rcases hc14_1 with ⟨rfl, hld⟩ | ⟨rfl, hld⟩
      · skip
        refine xl_pure rfl rfl rfl (pv_move (v := .tuple _) rfl rfl) ?_
        refine xl_pure rfl rfl rfl (pv_extract (v := .slice _ _ _) rfl rfl rfl) ?_
        refine xl_pure rfl rfl rfl (pv_extract (v := .int _ _) rfl rfl rfl) ?_
        refine xl_pure rfl rfl rfl (pv_assign (v := .slice _ _ _) rfl rfl) ?_
        refine xl_pure rfl rfl rfl (pv_assign (v := .int _ _) rfl rfl) ?_
        refine xl_nil ?_
        refine xthen_normal ?_
        refine xc_seq ?_
        refine xc_seq ?_
        refine xc_region ?_
        refine xl_pure rfl rfl rfl (pv_move (v := .pointer _) rfl rfl) ?_
        refine xl_heavy rfl rfl rfl (hv_call (g := 37) rfl rfl (p27 m1_2 hi0) rfl) ?_
        rintro v15_1 H15_1 ⟨rfl, rfl⟩
        cases hdn : doneS (s.drop i0, bad0)
        · skip
          refine xl_pure rfl rfl rfl (pv_not rfl rfl) ?_
          refine xl_pure rfl rfl rfl (pv_move (v := .bool _) rfl rfl) ?_
          refine xl_skip rfl rfl rfl ?_
          refine xl_skip rfl rfl rfl ?_
          refine xl_pure rfl rfl rfl (pv_pick_t (v := .bool _) rfl rfl rfl) ?_
          refine xl_nil ?_
          refine xthen_normal ?_
          refine xc_cond_t rfl ?_
          refine xc_seq ?_
          refine xc_region ?_
          refine xl_pure rfl rfl rfl (pv_assign (v := .slice _ _ _) rfl rfl) ?_
          refine xl_pure rfl rfl rfl (pv_assign (v := .int _ _) rfl rfl) ?_
          refine xl_nil ?_
          refine xthen_normal ?_
          refine xc_ret ?_
          refine xthen_ret ?_
          refine fin_ret (res2 (v := .slice _ _ _) (x := .int _ _) rfl rfl rfl) ?_
          first
            | exact ⟨2, [], none, 0, rfl, take_no hw2_1 ((show k = n2_1 by omega) ▸ hrd) (.inr hld), rows_nil, by decide, hX⟩
            | exact ⟨2, [], none, 0, rfl, take_no hw2_1 ((show k = n2_1 by omega) ▸ hrd) (.inl hdn), rows_nil, by decide, hX⟩
            | exact ⟨2, [], none, 0, rfl, take_bad hw2_1 hk hrd, rows_nil, by decide, hX⟩
        · skip
          refine xl_pure rfl rfl rfl (pv_not rfl rfl) ?_
          refine xl_pure rfl rfl rfl (pv_move (v := .bool _) rfl rfl) ?_
          refine xl_pure rfl rfl rfl (pv_move (v := .int _ _) rfl rfl) ?_
          refine xl_ndec rfl rfl rfl (pv_neq rfl rfl rfl) (fun h15_5 => ?_) (fun h15_5 => ?_)
          · skip
            refine xl_pure rfl rfl rfl (pv_pick_f (v := .bool _) rfl rfl rfl) ?_
            refine xl_nil ?_
            refine xthen_normal ?_
            refine xc_cond_f rfl ?_
            refine xc_skip ?_
            refine xthen_normal ?_
            refine xc_seq ?_
            refine xc_region ?_
            refine xl_pure rfl rfl rfl (pv_move (v := .slice _ _ _) rfl rfl) ?_
            refine xl_pure rfl rfl rfl (pv_assign (v := .slice _ _ _) rfl rfl) ?_
            refine xl_pure rfl rfl rfl (pv_assign (v := .int _ _) rfl rfl) ?_
            refine xl_nil ?_
            refine xthen_normal ?_
            refine xc_ret ?_
            refine fin_ret (res2 (v := .slice _ _ _) (x := .int _ _) rfl rfl rfl) ?_
            first
              | exact absurd hdn done_bad
              | exact ⟨0, rows, a14_1, c14_1, by rw [(load_self hwd hld).1], take_ok hw2_1 ((show k = n2_1 by omega) ▸ hrd) hdn hld, by rw [← (load_self hwd hld).1]; exact hr14_1, by omega, hX⟩
          · exact absurd (by decide) h15_5
      · skip
        refine xl_pure rfl rfl rfl (pv_move (v := .tuple _) rfl rfl) ?_
        refine xl_pure rfl rfl rfl (pv_extract (v := .slice _ _ _) rfl rfl rfl) ?_
        refine xl_pure rfl rfl rfl (pv_extract (v := .int _ _) rfl rfl rfl) ?_
        refine xl_pure rfl rfl rfl (pv_assign (v := .slice _ _ _) rfl rfl) ?_
        refine xl_pure rfl rfl rfl (pv_assign (v := .int _ _) rfl rfl) ?_
        refine xl_nil ?_
        refine xthen_normal ?_
        refine xc_seq ?_
        refine xc_seq ?_
        refine xc_region ?_
        refine xl_pure rfl rfl rfl (pv_move (v := .pointer _) rfl rfl) ?_
        refine xl_heavy rfl rfl rfl (hv_call (g := 37) rfl rfl (p27 m1_2 hi0) rfl) ?_
        rintro v15_1 H15_1 ⟨rfl, rfl⟩
        cases hdn : doneS (s.drop i0, bad0)
        · skip
          refine xl_pure rfl rfl rfl (pv_not rfl rfl) ?_
          refine xl_pure rfl rfl rfl (pv_move (v := .bool _) rfl rfl) ?_
          refine xl_skip rfl rfl rfl ?_
          refine xl_skip rfl rfl rfl ?_
          refine xl_pure rfl rfl rfl (pv_pick_t (v := .bool _) rfl rfl rfl) ?_
          refine xl_nil ?_
          refine xthen_normal ?_
          refine xc_cond_t rfl ?_
          refine xc_seq ?_
          refine xc_region ?_
          refine xl_pure rfl rfl rfl (pv_assign (v := .slice _ _ _) rfl rfl) ?_
          refine xl_pure rfl rfl rfl (pv_assign (v := .int _ _) rfl rfl) ?_
          refine xl_nil ?_
          refine xthen_normal ?_
          refine xc_ret ?_
          refine xthen_ret ?_
          refine fin_ret (res2 (v := .slice _ _ _) (x := .int _ _) rfl rfl rfl) ?_
          first
            | exact ⟨2, [], none, 0, rfl, take_no hw2_1 ((show k = n2_1 by omega) ▸ hrd) (.inr hld), rows_nil, by decide, hX⟩
            | exact ⟨2, [], none, 0, rfl, take_no hw2_1 ((show k = n2_1 by omega) ▸ hrd) (.inl hdn), rows_nil, by decide, hX⟩
            | exact ⟨2, [], none, 0, rfl, take_bad hw2_1 hk hrd, rows_nil, by decide, hX⟩
        · skip
          refine xl_pure rfl rfl rfl (pv_not rfl rfl) ?_
          refine xl_pure rfl rfl rfl (pv_move (v := .bool _) rfl rfl) ?_
          refine xl_pure rfl rfl rfl (pv_move (v := .int _ _) rfl rfl) ?_
          refine xl_ndec rfl rfl rfl (pv_neq rfl rfl rfl) (fun h15_5 => ?_) (fun h15_5 => ?_)
          · exact absurd h15_5 (by decide)
          · skip
            refine xl_pure rfl rfl rfl (pv_pick_f (v := .bool _) rfl rfl rfl) ?_
            refine xl_nil ?_
            refine xthen_normal ?_
            refine xc_cond_t rfl ?_
            refine xc_seq ?_
            refine xc_region ?_
            refine xl_pure rfl rfl rfl (pv_assign (v := .slice _ _ _) rfl rfl) ?_
            refine xl_pure rfl rfl rfl (pv_assign (v := .int _ _) rfl rfl) ?_
            refine xl_nil ?_
            refine xthen_normal ?_
            refine xc_ret ?_
            refine xthen_ret ?_
            refine fin_ret (res2 (v := .slice _ _ _) (x := .int _ _) rfl rfl rfl) ?_
            first
              | exact ⟨2, [], none, 0, rfl, take_no hw2_1 ((show k = n2_1 by omega) ▸ hrd) (.inr hld), rows_nil, by decide, hX⟩
              | exact ⟨2, [], none, 0, rfl, take_no hw2_1 ((show k = n2_1 by omega) ▸ hrd) (.inl hdn), rows_nil, by decide, hX⟩
              | exact ⟨2, [], none, 0, rfl, take_bad hw2_1 hk hrd, rows_nil, by decide, hX⟩
end Go.XG
