/-
  Walks of the seat's functions over the logic XG: each function, what it computes. Printed by a program out of wip/walks.py.
-/
import Derived.Test.YtecjgodbgfollaaI
import Derived.Test.YtecjgodbgfollaaLn
import Derived.Test.YtecjgodbgfollaaNa
import Derived.Test.YtecjgodbgfollaaNb
import Derived.Test.YtecjgodbgfollaaNc
import Derived.Test.YtecjgodbgfollaaNd
import Derived.Test.YtecjgodbgfollaaNf
import Derived.Test.YtecjgodbgfollaaNg
import Derived.Test.YtecjgodbgfollaaE
import Derived.Test.YtecjgodbgfollaaWa
import Derived.Test.YtecjgodbgfollaaWb
import Derived.Test.YtecjgodbgfollaaWc
import Derived.Test.YtecjgodbgfollaaWd
import Derived.Test.YtecjgodbgfollaaWe
import Derived.Test.YtecjgodbgfollaaWf
import Derived.Test.YtecjgodbgfollaaWg
import Derived.Test.YtecjgodbgfollaaWh
import Derived.Test.YtecjgodbgfollaaWi
import Derived.Test.YtecjgodbgfollaaWj
import Derived.Test.YtecjgodbgfollaaE2
namespace Go.XG
open Go.Proofs Go.Pen
set_option maxRecDepth 4000
set_option maxHeartbeats 4000000
theorem c20 {O : Outer} {H : Heap} (l : List (List Int)) (la : Option Addr) (lc : Nat) (hR : Rows H la 4 l) (hl : l.length ≤ 1048576) :
    FnC Try.prog 20 #[.slice la (List.length l) lc] O H (fun v H' => (loadL l = none ∧ v = .tuple #[.string (bs []), .int .i64 1] ∨ loadL l = some l ∧ v = .tuple #[.string (bs (putB l)), .int .i64 0]) ∧ Ext H H') := by
  refine fn_enter (A := [.slice la (List.length l) lc]) Try.func20 rfl rfl ?_
  have hX := Ext.refl H
  refine xc_seq ?_
  refine xc_region ?_
  refine xl_pure rfl rfl rfl (pv_assign (v := .string (bs _)) rfl rfl) ?_
  refine xl_pure rfl rfl rfl (pv_assign (v := .int _ _) rfl rfl) ?_
  refine xl_nil ?_
  refine xthen_normal ?_
  refine xc_seq ?_
  refine xc_seq ?_
  refine xc_region ?_
  refine xl_pure rfl rfl rfl (pv_move (v := .slice _ _ _) rfl rfl) ?_
  refine xl_heavy rfl rfl rfl (hv_call (g := 12) rfl rfl (c12 l la lc (hR.ext hX) (by omega)) rfl) ?_
  rintro v1_1 H1_1 ⟨hc1_1, hE1_1⟩
  have hX := hX.trans hE1_1
  rcases hc1_1 with ⟨rfl, hld⟩ | ⟨p, va, vc, mv, x, rfl, hld, -⟩
  · skip
    refine xl_pure rfl rfl rfl (pv_move (v := .tuple _) rfl rfl) ?_
    refine xl_pure rfl rfl rfl (pv_extract (v := .pointer _) rfl rfl rfl) ?_
    refine xl_pure rfl rfl rfl (pv_extract (v := .int _ _) rfl rfl rfl) ?_
    refine xl_pure rfl rfl rfl (pv_assign (v := .pointer _) rfl rfl) ?_
    refine xl_pure rfl rfl rfl (pv_assign (v := .int _ _) rfl rfl) ?_
    refine xl_nil ?_
    refine xthen_normal ?_
    refine xc_seq ?_
    refine xc_region ?_
    refine xl_pure rfl rfl rfl (pv_move (v := .int _ _) rfl rfl) ?_
    refine xl_ndec rfl rfl rfl (pv_neq rfl rfl rfl) (fun h2_1 => ?_) (fun h2_1 => ?_)
    · exact absurd h2_1 (by decide)
    · skip
      refine xl_nil ?_
      refine xthen_normal ?_
      refine xc_cond_t rfl ?_
      refine xc_seq ?_
      refine xc_region ?_
      refine xl_pure rfl rfl rfl (pv_move (v := .int _ _) rfl rfl) ?_
      refine xl_pure rfl rfl rfl (pv_assign (v := .string (bs _)) rfl rfl) ?_
      refine xl_pure rfl rfl rfl (pv_assign (v := .int _ _) rfl rfl) ?_
      refine xl_nil ?_
      refine xthen_normal ?_
      refine xc_ret ?_
      refine xthen_ret ?_
      refine fin_ret (res2 (v := .string (bs _)) (x := .int _ _) rfl rfl rfl) ?_
      exact ⟨.inl ⟨hld, rfl⟩, hX⟩
  · skip
    refine xl_pure rfl rfl rfl (pv_move (v := .tuple _) rfl rfl) ?_
    refine xl_pure rfl rfl rfl (pv_extract (v := .pointer _) rfl rfl rfl) ?_
    refine xl_pure rfl rfl rfl (pv_extract (v := .int _ _) rfl rfl rfl) ?_
    refine xl_pure rfl rfl rfl (pv_assign (v := .pointer _) rfl rfl) ?_
    refine xl_pure rfl rfl rfl (pv_assign (v := .int _ _) rfl rfl) ?_
    refine xl_nil ?_
    refine xthen_normal ?_
    refine xc_seq ?_
    refine xc_region ?_
    refine xl_pure rfl rfl rfl (pv_move (v := .int _ _) rfl rfl) ?_
    refine xl_ndec rfl rfl rfl (pv_neq rfl rfl rfl) (fun h2_1 => ?_) (fun h2_1 => ?_)
    · skip
      refine xl_nil ?_
      refine xthen_normal ?_
      refine xc_cond_f rfl ?_
      refine xc_skip ?_
      refine xthen_normal ?_
      refine xc_seq ?_
      obtain ⟨hxl, hst⟩ := load_self hR.1 hld
      rw [hxl] at hld
      refine xc_region ?_
      refine xl_pure rfl rfl rfl (pv_move (v := .slice _ _ _) rfl rfl) ?_
      refine xl_pure rfl rfl rfl (pv_len_l rfl rfl) ?_
      refine xl_heavy rfl rfl rfl (hv_call (g := 31) rfl rfl (p8 _ (by omega)) rfl) ?_
      rintro v4_2 H4_2 ⟨rfl, hE4_2⟩
      have hX := hX.trans hE4_2
      refine xl_pure rfl rfl rfl (pv_assign (v := .string (bs _)) rfl rfl) ?_
      refine xl_nil ?_
      refine xthen_normal ?_
      refine xc_seq ?_
      refine xc_region ?_
      refine xl_pure rfl rfl rfl (pv_assign (v := .int _ _) rfl rfl) ?_
      refine xl_nil ?_
      refine xthen_normal ?_
      refine xc_seq ?_
      refine xc_seq ?_
      refine xc_region ?_
      refine xl_pure rfl rfl rfl (pv_move (v := .slice _ _ _) rfl rfl) ?_
      refine xl_pure rfl rfl rfl (pv_len_l rfl rfl) ?_
      refine xl_pure rfl rfl rfl (pv_move (v := .int _ _) rfl rfl) ?_
      refine xl_nil ?_
      refine xthen_normal ?_
      refine xc_block ?_
      refine xc_loop (τ := Nat) (fun t => [(6, .string (bs (uintB (List.length l) ++ encU t l))), (7, .int .i64 (atK l t)), (23, .slice la (List.length l) lc), (24, .int .i64 ((List.length l) : Nat)), (25, .int .i64 (t : Nat))]) (fun t H' => (t ≤ l.length) ∧ (Ext H H')) (fun t H' => l.length - t) 0 ?_ ?_ ?_
      · exact ⟨sv (by simp [encU]), rfl, rfl, rfl, rfl, trivial⟩
      · skip
        exact ⟨Nat.zero_le _, hX⟩
      · intro σ
        clear hX
        rintro k Hl7 ⟨hk, hX⟩
        replace hk : k ≤ l.length := hk
        replace hX : Ext H Hl7 := hX
        show XC _ _ _ (upds σ [(6, .string (bs (uintB (List.length l) ++ encU k l))), (7, .int .i64 (atK l k)), (23, .slice la (List.length l) lc), (24, .int .i64 ((List.length l) : Nat)), (25, .int .i64 (k : Nat))]) _
        refine xc_seq ?_
        refine xc_region ?_
        refine xl_dec rfl rfl rfl (pv_lss rfl rfl rfl) (fun h7_0 => ?_) (fun h7_0 => ?_)
        · skip
          refine xl_nil ?_
          refine xthen_normal ?_
          refine xc_seq ?_
          refine xc_cond_t rfl ?_
          refine xc_skip ?_
          refine xthen_normal ?_
          refine xc_seq ?_
          refine xc_block ?_
          refine xc_seq ?_
          obtain ⟨ba, off, hae, hsa⟩ := hR.2.resolve_left (by omega)
          subst hae
          refine xc_region ?_
          refine xl_pure rfl rfl rfl (pv_indexAddr_l rfl rfl rfl (by omega)) ?_
          refine xl_light rfl rfl rfl (lv_load (v := .agg _) rfl rfl (by exact ld_row' (i := k) (RowsAt.ext hsa hX) hR.1 (by omega))) ?_
          refine xl_heavy rfl rfl rfl (hv_alloc rfl rfl) ?_
          rintro v8_2 H8_2 ⟨b8_2, rfl, hN8_2⟩
          have gb8_2 := hX.fresh hN8_2
          have hX := hX.trans hN8_2.ext
          have m8_2 := hN8_2.blk
          refine xl_store rfl rfl (hv_storeA (vs := ints (gr l k)) rfl rfl rfl (m8_2) (ints_len hR.1 (by omega)) (by rfl) (ints_one _)) ?_
          rintro v8_3 H8_3 ⟨hU8_3, hZ8_3⟩
          have hX := hX.upd hU8_3.but gb8_2
          have m8_2 := hU8_3.blk
          refine xl_nil ?_
          refine xthen_normal ?_
          refine xc_seq ?_
          refine xc_seq ?_
          have hnb := (num_bd hst (show k < l.length by omega) 0).2
          refine xc_region ?_
          refine xl_pure rfl rfl rfl (pv_fieldAddr rfl rfl) ?_
          refine xl_light rfl rfl rfl (lv_load (v := .int _ _) rfl rfl (by exact ld_blk m8_2 (ints_get (j := 0) (by rw [hR.1.get (by omega)]; decide)))) ?_
          refine xl_pure rfl rfl rfl (pv_move (v := .int _ _) rfl rfl) ?_
          refine xl_pure rfl rfl rfl (pv_sub rfl rfl rfl (fit_i64 (by omega))) ?_
          refine xl_pure rfl rfl rfl (pv_fieldAddr rfl rfl) ?_
          refine xl_light rfl rfl rfl (lv_load (v := .int _ _) rfl rfl (by exact ld_blk m8_2 (ints_get (j := 1) (by rw [hR.1.get (by omega)]; decide)))) ?_
          refine xl_pure rfl rfl rfl (pv_fieldAddr rfl rfl) ?_
          refine xl_light rfl rfl rfl (lv_load (v := .int _ _) rfl rfl (by exact ld_blk m8_2 (ints_get (j := 2) (by rw [hR.1.get (by omega)]; decide)))) ?_
          refine xl_pure rfl rfl rfl (pv_fieldAddr rfl rfl) ?_
          refine xl_light rfl rfl rfl (lv_load (v := .int _ _) rfl rfl (by exact ld_blk m8_2 (ints_get (j := 3) (by rw [hR.1.get (by omega)]; decide)))) ?_
          refine xl_pure rfl rfl rfl (pv_build_a (cs := [.int _ _, .int _ _, .int _ _, .int _ _]) rfl rfl rfl) ?_
          refine xl_pure rfl rfl rfl (pv_move (v := .int _ _) rfl rfl) ?_
          refine xl_nil ?_
          refine xthen_normal ?_
          refine xc_block ?_
          refine xc_loop (τ := Nat) (fun t => [(6, .string (bs (uintB (List.length l) ++ encU k l ++ encK ((numK l k).take t)))), (9, .pointer (some ⟨b8_2, 0, none⟩)), (23, .slice (some ⟨ba, off, none⟩) (List.length l) lc), (24, .int .i64 ((List.length l) : Nat)), (25, .int .i64 (k : Nat)), (39, .agg (ints (numK l k)).toArray), (40, .int .i64 (t : Nat))]) (fun t H' => (t ≤ 4) ∧ (Blk H' b8_2 (ints (gr l k)) 29) ∧ (Ext H H')) (fun t H' => 4 - t) 0 ?_ ?_ ?_
          · exact ⟨sv (by simp [encK]), rfl, rfl, rfl, rfl, rfl, rfl, trivial⟩
          · skip
            exact ⟨Nat.zero_le _, m8_2, hX⟩
          · intro σ
            clear hX m8_2
            rintro j Hl10 ⟨hj, m8_2, hX⟩
            replace hj : j ≤ 4 := hj
            replace m8_2 : Blk Hl10 b8_2 (ints (gr l k)) 29 := m8_2
            replace hX : Ext H Hl10 := hX
            show XC _ _ _ (upds σ [(6, .string (bs (uintB (List.length l) ++ encU k l ++ encK ((numK l k).take j)))), (9, .pointer (some ⟨b8_2, 0, none⟩)), (23, .slice (some ⟨ba, off, none⟩) (List.length l) lc), (24, .int .i64 ((List.length l) : Nat)), (25, .int .i64 (k : Nat)), (39, .agg (ints (numK l k)).toArray), (40, .int .i64 (j : Nat))]) _
            refine xc_seq ?_
            refine xc_region ?_
            refine xl_dec rfl rfl rfl (pv_lss rfl rfl rfl) (fun h10_0 => ?_) (fun h10_0 => ?_)
            · skip
              refine xl_nil ?_
              refine xthen_normal ?_
              refine xc_seq ?_
              refine xc_cond_t rfl ?_
              refine xc_skip ?_
              refine xthen_normal ?_
              refine xc_seq ?_
              refine xc_block ?_
              refine xc_seq ?_
              refine xc_region ?_
              refine xl_pure rfl rfl rfl (pv_index_a (cs := ints (numK l k)) (v := .int .i64 ((numK l k).getD j 0)) rfl rfl rfl (by omega) (by rw [Nat.mul_one]; exact ints_get (show j < 4 by omega))) ?_
              refine xl_pure rfl rfl rfl (pv_assign (v := .int _ _) rfl rfl) ?_
              refine xl_nil ?_
              refine xthen_normal ?_
              refine xc_region ?_
              refine xl_pure rfl rfl rfl (pv_move (v := .string (bs _)) rfl rfl) ?_
              refine xl_pure rfl rfl rfl (pv_move (v := .int _ _) rfl rfl) ?_
              refine xl_heavy rfl rfl rfl (hv_call (g := 31) rfl rfl (p8 _ ((num_bd hst (by omega) j).1)) rfl) ?_
              rintro v12_2 H12_2 ⟨rfl, hE12_2⟩
              have m8_2 := m8_2.ext hE12_2
              have hX := hX.trans hE12_2
              refine xl_pure rfl rfl rfl (pv_add_s rfl rfl rfl (putB_pre (by omega) (by omega) _)) ?_
              refine xl_pure rfl rfl rfl (pv_assign (v := .string (bs _)) rfl rfl) ?_
              refine xl_nil ?_
              refine xblock_normal ?_
              refine xthen_normal ?_
              refine xc_region ?_
              refine xl_pure rfl rfl rfl (pv_add rfl rfl rfl (fit_i64 (by omega))) ?_
              refine xl_pure rfl rfl rfl (pv_move (v := .int _ _) rfl rfl) ?_
              refine xl_nil ?_
              refine xthen_normal ?_
              exact ⟨j + 1, ⟨sv (by rw [encK_take (show j < (numK l k).length by show j < 4; omega)]; simp), rfl, rfl, rfl, rfl, rfl, rfl, trivial⟩, ⟨by (try simp only); omega, m8_2, hX⟩, by (try simp only); omega⟩
            · skip
              refine xl_nil ?_
              refine xthen_normal ?_
              refine xc_seq ?_
              refine xc_cond_f rfl ?_
              refine xc_exit ?_
              refine xthen_exit ?_
              refine xthen_exit ?_
              refine xblock_same ?_
              refine xthen_normal ?_
              refine xc_region ?_
              refine xl_pure rfl rfl rfl (pv_fieldAddr rfl rfl) ?_
              refine xl_light rfl rfl rfl (lv_load (v := .int _ _) rfl rfl (by exact ld_blk m8_2 (ints_get (j := 0) (by rw [hR.1.get (by omega)]; decide)))) ?_
              refine xl_pure rfl rfl rfl (pv_assign (v := .int _ _) rfl rfl) ?_
              refine xl_nil ?_
              refine xblock_normal ?_
              refine xthen_normal ?_
              refine xc_region ?_
              refine xl_pure rfl rfl rfl (pv_add rfl rfl rfl (fit_i64 (by omega))) ?_
              refine xl_pure rfl rfl rfl (pv_move (v := .int _ _) rfl rfl) ?_
              refine xl_nil ?_
              refine xthen_normal ?_
              exact ⟨k + 1, ⟨sv (by rw [List.take_of_length_le (show (numK l k).length ≤ j by show 4 ≤ j; omega)]; simp [encU]), rfl, rfl, rfl, rfl, trivial⟩, ⟨by (try simp only); omega, hX⟩, by (try simp only); omega⟩
        · skip
          refine xl_nil ?_
          refine xthen_normal ?_
          refine xc_seq ?_
          refine xc_cond_f rfl ?_
          refine xc_exit ?_
          refine xthen_exit ?_
          refine xthen_exit ?_
          refine xblock_same ?_
          refine xthen_normal ?_
          refine xc_seq ?_
          refine xc_region ?_
          refine xl_pure rfl rfl rfl (pv_move (v := .string (bs _)) rfl rfl) ?_
          refine xl_pure rfl rfl rfl (pv_assign (v := .string (bs _)) rfl rfl) ?_
          refine xl_pure rfl rfl rfl (pv_assign (v := .int _ _) rfl rfl) ?_
          refine xl_nil ?_
          refine xthen_normal ?_
          refine xc_ret ?_
          refine fin_ret (res2 (v := .string (bs _)) (x := .int _ _) rfl rfl rfl) ?_
          exact ⟨.inr ⟨hld, by rw [show k = l.length by omega]; rfl⟩, hX⟩
    · exact absurd (by decide) h2_1
end Go.XG
