/-
  Walks of the seat's functions over the logic XG: each function, what it computes. Printed by a program out of wip/walks.py.
-/
import Derived.Test.YtecjgodbgfollaaI
import Derived.Test.YtecjgodbgfollaaLn
import Derived.Test.YtecjgodbgfollaaNa
import Derived.Test.YtecjgodbgfollaaNb
import Derived.Test.YtecjgodbgfollaaNc
import Derived.Test.YtecjgodbgfollaaNd
import Derived.Test.YtecjgodbgfollaaNf
import Derived.Test.YtecjgodbgfollaaNg
import Derived.Test.YtecjgodbgfollaaE
import Derived.Test.YtecjgodbgfollaaWa
import Derived.Test.YtecjgodbgfollaaWb
import Derived.Test.YtecjgodbgfollaaWc
import Derived.Test.YtecjgodbgfollaaWd
import Derived.Test.YtecjgodbgfollaaWe
import Derived.Test.YtecjgodbgfollaaWf
import Derived.Test.YtecjgodbgfollaaWg
namespace Go.XG
open Go.Proofs Go.Pen
set_option maxRecDepth 4000
set_option maxHeartbeats 4000000
theorem c18 {O : Outer} {H : Heap} {B p vc : Nat} {va : Option Addr} {mv : Option Nat} {l : List (List Int)} (hg : LogAt H B p va vc mv l) (w s : Int) :
    FnC Try.prog 18 #[.pointer (some ⟨p, 0, none⟩), .int .i64 w, .int .i64 s] O H (fun v H' => v = .int .i64 (cntL l w s) ∧ Ext H H') := by
  refine fn_enter (A := [.pointer (some ⟨p, 0, none⟩), .int .i64 w, .int .i64 s]) Try.func18 rfl rfl ?_
  have mp := hg.blk
  have hR := hg.rows
  have hlen := hg.len
  have hX := Ext.refl H
  refine xc_seq ?_
  refine xc_region ?_
  refine xl_pure rfl rfl rfl (pv_assign (v := .int _ _) rfl rfl) ?_
  refine xl_nil ?_
  refine xthen_normal ?_
  refine xc_seq ?_
  refine xc_region ?_
  refine xl_pure rfl rfl rfl (pv_assign (v := .int _ _) rfl rfl) ?_
  refine xl_nil ?_
  refine xthen_normal ?_
  refine xc_seq ?_
  refine xc_seq ?_
  refine xc_region ?_
  refine xl_pure rfl rfl rfl (pv_move (v := .pointer _) rfl rfl) ?_
  refine xl_heavy rfl rfl rfl (hv_call (g := 9) rfl rfl (c9 hg) rfl) ?_
  rintro v2_1 H2_1 ⟨a2_1, c2_1, rfl, hR2_1, hA2_1, hO2_1, hE2_1⟩
  have mp := mp.ext hE2_1
  have hX := hX.trans hE2_1
  have hX2_1 := Ext.refl H2_1
  refine xl_pure rfl rfl rfl (pv_len_l rfl rfl) ?_
  refine xl_pure rfl rfl rfl (pv_move (v := .int _ _) rfl rfl) ?_
  refine xl_nil ?_
  refine xthen_normal ?_
  refine xc_block ?_
  refine xc_loop (τ := Nat) (fun t => [(1, .int .i64 w), (2, .int .i64 s), (7, .int .i64 (cntL (l.take t) w s)), (11, .slice a2_1 (List.length l) c2_1), (12, .int .i64 ((List.length l) : Nat)), (13, .int .i64 (t : Nat))]) (fun t H' => (t ≤ l.length) ∧ (Ext H2_1 H') ∧ (Ext H H')) (fun t H' => l.length - t) 0 ?_ ?_ ?_
  · exact ⟨rfl, rfl, rfl, rfl, rfl, rfl, trivial⟩
  · skip
    exact ⟨Nat.zero_le _, hX2_1, hX⟩
  · intro σ
    clear hX mp hX2_1
    rintro k Hl3 ⟨hk, hX2_1, hX⟩
    replace hk : k ≤ l.length := hk
    replace hX2_1 : Ext H2_1 Hl3 := hX2_1
    replace hX : Ext H Hl3 := hX
    show XC _ _ _ (upds σ [(1, .int .i64 w), (2, .int .i64 s), (7, .int .i64 (cntL (l.take k) w s)), (11, .slice a2_1 (List.length l) c2_1), (12, .int .i64 ((List.length l) : Nat)), (13, .int .i64 (k : Nat))]) _
    refine xc_seq ?_
    refine xc_region ?_
    refine xl_dec rfl rfl rfl (pv_lss rfl rfl rfl) (fun h3_0 => ?_) (fun h3_0 => ?_)
    · skip
      refine xl_nil ?_
      refine xthen_normal ?_
      refine xc_seq ?_
      refine xc_cond_t rfl ?_
      refine xc_skip ?_
      refine xthen_normal ?_
      refine xc_seq ?_
      refine xc_block ?_
      refine xc_seq ?_
      obtain ⟨ba, off, hae, hsa⟩ := hR2_1.2.resolve_left (by omega)
      subst hae
      have hcb := cnt_bd (l := l) (k := k) (w := w) (s := s)
      refine xc_region ?_
      refine xl_pure rfl rfl rfl (pv_indexAddr_l rfl rfl rfl (by omega)) ?_
      refine xl_light rfl rfl rfl (lv_load (v := .agg _) rfl rfl (by exact ld_row' (i := k) (RowsAt.ext hsa hX2_1) hR2_1.1 (by omega))) ?_
      refine xl_heavy rfl rfl rfl (hv_alloc rfl rfl) ?_
      rintro v4_2 H4_2 ⟨b4_2, rfl, hN4_2⟩
      have gb4_2 := hX.fresh hN4_2
      have gb4_2_hX2_1 := hX2_1.fresh hN4_2
      have hX := hX.trans hN4_2.ext
      have hX2_1 := hX2_1.trans hN4_2.ext
      have m4_2 := hN4_2.blk
      refine xl_store rfl rfl (hv_storeA (vs := ints (gr l k)) rfl rfl rfl (m4_2) (ints_len hR2_1.1 (by omega)) (by rfl) (ints_one _)) ?_
      rintro v4_3 H4_3 ⟨hU4_3, hZ4_3⟩
      have hX2_1 := hX2_1.upd hU4_3.but gb4_2_hX2_1
      have hX := hX.upd hU4_3.but gb4_2
      have m4_2 := hU4_3.blk
      refine xl_nil ?_
      refine xthen_normal ?_
      refine xc_seq ?_
      refine xc_region ?_
      refine xl_pure rfl rfl rfl (pv_fieldAddr rfl rfl) ?_
      refine xl_light rfl rfl rfl (lv_load (v := .int _ _) rfl rfl (by exact ld_blk m4_2 (ints_get (j := 1) (by rw [hR2_1.1.get (by omega)]; decide)))) ?_
      refine xl_pure rfl rfl rfl (pv_move (v := .int _ _) rfl rfl) ?_
      refine xl_dec rfl rfl rfl (pv_eql rfl rfl rfl) (fun h5_3 => ?_) (fun h5_3 => ?_)
      · skip
        refine xl_pure rfl rfl rfl (pv_move (v := .bool _) rfl rfl) ?_
        refine xl_pure rfl rfl rfl (pv_fieldAddr rfl rfl) ?_
        refine xl_light rfl rfl rfl (lv_load (v := .int _ _) rfl rfl (by exact ld_blk m4_2 (ints_get (j := 3) (by rw [hR2_1.1.get (by omega)]; decide)))) ?_
        refine xl_pure rfl rfl rfl (pv_move (v := .int _ _) rfl rfl) ?_
        refine xl_dec rfl rfl rfl (pv_eql rfl rfl rfl) (fun h5_8 => ?_) (fun h5_8 => ?_)
        · skip
          refine xl_pure rfl rfl rfl (pv_pick_t (v := .bool _) rfl rfl rfl) ?_
          refine xl_nil ?_
          refine xthen_normal ?_
          refine xc_cond_t rfl ?_
          refine xc_region ?_
          refine xl_pure rfl rfl rfl (pv_move (v := .int _ _) rfl rfl) ?_
          refine xl_pure rfl rfl rfl (pv_add rfl rfl rfl (fit_i64 (by omega))) ?_
          refine xl_pure rfl rfl rfl (pv_assign (v := .int _ _) rfl rfl) ?_
          refine xl_nil ?_
          refine xblock_normal ?_
          refine xthen_normal ?_
          refine xc_region ?_
          refine xl_pure rfl rfl rfl (pv_add rfl rfl rfl (fit_i64 (by omega))) ?_
          refine xl_pure rfl rfl rfl (pv_move (v := .int _ _) rfl rfl) ?_
          refine xl_nil ?_
          refine xthen_normal ?_
          first
            | exact ⟨k + 1, ⟨rfl, rfl, iv (cnt_yes (by omega) (by assumption) (by assumption)), rfl, rfl, rfl, trivial⟩, ⟨by (try simp only); omega, hX2_1, hX⟩, by (try simp only); omega⟩
            | exact ⟨k + 1, ⟨rfl, rfl, iv (cnt_no (by omega) (by omega)), rfl, rfl, rfl, trivial⟩, ⟨by (try simp only); omega, hX2_1, hX⟩, by (try simp only); omega⟩
        · skip
          refine xl_pure rfl rfl rfl (pv_pick_t (v := .bool _) rfl rfl rfl) ?_
          refine xl_nil ?_
          refine xthen_normal ?_
          refine xc_cond_f rfl ?_
          refine xc_skip ?_
          refine xblock_normal ?_
          refine xthen_normal ?_
          refine xc_region ?_
          refine xl_pure rfl rfl rfl (pv_add rfl rfl rfl (fit_i64 (by omega))) ?_
          refine xl_pure rfl rfl rfl (pv_move (v := .int _ _) rfl rfl) ?_
          refine xl_nil ?_
          refine xthen_normal ?_
          first
            | exact ⟨k + 1, ⟨rfl, rfl, iv (cnt_yes (by omega) (by assumption) (by assumption)), rfl, rfl, rfl, trivial⟩, ⟨by (try simp only); omega, hX2_1, hX⟩, by (try simp only); omega⟩
            | exact ⟨k + 1, ⟨rfl, rfl, iv (cnt_no (by omega) (by omega)), rfl, rfl, rfl, trivial⟩, ⟨by (try simp only); omega, hX2_1, hX⟩, by (try simp only); omega⟩
      · skip
        refine xl_pure rfl rfl rfl (pv_move (v := .bool _) rfl rfl) ?_
        refine xl_skip rfl rfl rfl ?_
        refine xl_skip rfl rfl rfl ?_
        refine xl_skip rfl rfl rfl ?_
        refine xl_skip rfl rfl rfl ?_
        refine xl_pure rfl rfl rfl (pv_pick_f (v := .bool _) rfl rfl rfl) ?_
        refine xl_nil ?_
        refine xthen_normal ?_
        refine xc_cond_f rfl ?_
        refine xc_skip ?_
        refine xblock_normal ?_
        refine xthen_normal ?_
        refine xc_region ?_
        refine xl_pure rfl rfl rfl (pv_add rfl rfl rfl (fit_i64 (by omega))) ?_
        refine xl_pure rfl rfl rfl (pv_move (v := .int _ _) rfl rfl) ?_
        refine xl_nil ?_
        refine xthen_normal ?_
        first
          | exact ⟨k + 1, ⟨rfl, rfl, iv (cnt_yes (by omega) (by assumption) (by assumption)), rfl, rfl, rfl, trivial⟩, ⟨by (try simp only); omega, hX2_1, hX⟩, by (try simp only); omega⟩
          | exact ⟨k + 1, ⟨rfl, rfl, iv (cnt_no (by omega) (by omega)), rfl, rfl, rfl, trivial⟩, ⟨by (try simp only); omega, hX2_1, hX⟩, by (try simp only); omega⟩
    · skip
      refine xl_nil ?_
      refine xthen_normal ?_
      refine xc_seq ?_
      refine xc_cond_f rfl ?_
      refine xc_exit ?_
      refine xthen_exit ?_
      refine xthen_exit ?_
      refine xblock_same ?_
      refine xthen_normal ?_
      refine xc_seq ?_
      refine xc_region ?_
      refine xl_pure rfl rfl rfl (pv_move (v := .int _ _) rfl rfl) ?_
      refine xl_pure rfl rfl rfl (pv_assign (v := .int _ _) rfl rfl) ?_
      refine xl_nil ?_
      refine xthen_normal ?_
      refine xc_ret ?_
      refine fin_ret (res1 (v := .int _ _) rfl rfl) ?_
      exact ⟨iv (by rw [List.take_of_length_le (by omega)]), hX⟩

theorem c19 {O : Outer} {H : Heap} (l : List (List Int)) (la : Option Addr) (lc : Nat) (hR : Rows H la 4 l) (hl : l.length ≤ 1048576) (w s : Int) :
    FnC Try.prog 19 #[.slice la (List.length l) lc, .int .i64 w, .int .i64 s] O H (fun v H' => v = .int .i64 (cntL l w s) ∧ Ext H H') := by
  refine fn_enter (A := [.slice la (List.length l) lc, .int .i64 w, .int .i64 s]) Try.func19 rfl rfl ?_
  have hX := Ext.refl H
  refine xc_seq ?_
  refine xc_region ?_
  refine xl_pure rfl rfl rfl (pv_assign (v := .int _ _) rfl rfl) ?_
  refine xl_nil ?_
  refine xthen_normal ?_
  refine xc_seq ?_
  refine xc_region ?_
  refine xl_pure rfl rfl rfl (pv_assign (v := .int _ _) rfl rfl) ?_
  refine xl_nil ?_
  refine xthen_normal ?_
  refine xc_seq ?_
  refine xc_seq ?_
  refine xc_region ?_
  refine xl_pure rfl rfl rfl (pv_assign (v := .int _ _) rfl rfl) ?_
  refine xl_nil ?_
  refine xthen_normal ?_
  refine xc_block ?_
  refine xc_loop (τ := Nat) (fun t => [(0, .slice la (List.length l) lc), (1, .int .i64 w), (2, .int .i64 s), (7, .int .i64 (cntL (l.take t) w s)), (8, .int .i64 (t : Nat))]) (fun t H' => (t ≤ l.length) ∧ (Ext H H')) (fun t H' => l.length - t) 0 ?_ ?_ ?_
  · exact ⟨rfl, rfl, rfl, rfl, rfl, trivial⟩
  · skip
    exact ⟨Nat.zero_le _, hX⟩
  · intro σ
    clear hX
    rintro k Hl3 ⟨hk, hX⟩
    replace hk : k ≤ l.length := hk
    replace hX : Ext H Hl3 := hX
    show XC _ _ _ (upds σ [(0, .slice la (List.length l) lc), (1, .int .i64 w), (2, .int .i64 s), (7, .int .i64 (cntL (l.take k) w s)), (8, .int .i64 (k : Nat))]) _
    refine xc_seq ?_
    refine xc_seq ?_
    refine xc_region ?_
    refine xl_pure rfl rfl rfl (pv_move (v := .int _ _) rfl rfl) ?_
    refine xl_pure rfl rfl rfl (pv_move (v := .slice _ _ _) rfl rfl) ?_
    refine xl_pure rfl rfl rfl (pv_len_l rfl rfl) ?_
    refine xl_dec rfl rfl rfl (pv_lss rfl rfl rfl) (fun h3_3 => ?_) (fun h3_3 => ?_)
    · skip
      refine xl_nil ?_
      refine xthen_normal ?_
      refine xc_cond_t rfl ?_
      refine xc_skip ?_
      refine xthen_normal ?_
      refine xc_seq ?_
      refine xc_block ?_
      refine xc_seq ?_
      obtain ⟨ba, off, hae, hsa⟩ := hR.2.resolve_left (by omega)
      subst hae
      have hcb := cnt_bd (l := l) (k := k) (w := w) (s := s)
      refine xc_region ?_
      refine xl_pure rfl rfl rfl (pv_move (v := .slice _ _ _) rfl rfl) ?_
      refine xl_pure rfl rfl rfl (pv_move (v := .int _ _) rfl rfl) ?_
      refine xl_pure rfl rfl rfl (pv_indexAddr_l rfl rfl rfl (by omega)) ?_
      refine xl_pure rfl rfl rfl (pv_fieldAddr rfl rfl) ?_
      refine xl_light rfl rfl rfl (lv_load (v := .int _ _) rfl rfl (by exact ld_num (j := 1) (i := k) (RowsAt.ext hsa hX) hR.1 (by omega) (by omega))) ?_
      refine xl_pure rfl rfl rfl (pv_move (v := .int _ _) rfl rfl) ?_
      refine xl_dec rfl rfl rfl (pv_eql rfl rfl rfl) (fun h5_6 => ?_) (fun h5_6 => ?_)
      · skip
        refine xl_pure rfl rfl rfl (pv_move (v := .bool _) rfl rfl) ?_
        refine xl_pure rfl rfl rfl (pv_move (v := .slice _ _ _) rfl rfl) ?_
        refine xl_pure rfl rfl rfl (pv_move (v := .int _ _) rfl rfl) ?_
        refine xl_pure rfl rfl rfl (pv_indexAddr_l rfl rfl rfl (by omega)) ?_
        refine xl_pure rfl rfl rfl (pv_fieldAddr rfl rfl) ?_
        refine xl_light rfl rfl rfl (lv_load (v := .int _ _) rfl rfl (by exact ld_num (j := 3) (i := k) (RowsAt.ext hsa hX) hR.1 (by omega) (by omega))) ?_
        refine xl_pure rfl rfl rfl (pv_move (v := .int _ _) rfl rfl) ?_
        refine xl_dec rfl rfl rfl (pv_eql rfl rfl rfl) (fun h5_14 => ?_) (fun h5_14 => ?_)
        · skip
          refine xl_pure rfl rfl rfl (pv_pick_t (v := .bool _) rfl rfl rfl) ?_
          refine xl_nil ?_
          refine xthen_normal ?_
          refine xc_cond_t rfl ?_
          refine xc_region ?_
          refine xl_pure rfl rfl rfl (pv_move (v := .int _ _) rfl rfl) ?_
          refine xl_pure rfl rfl rfl (pv_add rfl rfl rfl (fit_i64 (by omega))) ?_
          refine xl_pure rfl rfl rfl (pv_assign (v := .int _ _) rfl rfl) ?_
          refine xl_nil ?_
          refine xblock_normal ?_
          refine xthen_normal ?_
          refine xc_region ?_
          refine xl_pure rfl rfl rfl (pv_move (v := .int _ _) rfl rfl) ?_
          refine xl_pure rfl rfl rfl (pv_add rfl rfl rfl (fit_i64 (by omega))) ?_
          refine xl_pure rfl rfl rfl (pv_assign (v := .int _ _) rfl rfl) ?_
          refine xl_nil ?_
          refine xthen_normal ?_
          first
            | exact ⟨k + 1, ⟨rfl, rfl, rfl, iv (cnt_yes (by omega) (by assumption) (by assumption)), rfl, trivial⟩, ⟨by (try simp only); omega, hX⟩, by (try simp only); omega⟩
            | exact ⟨k + 1, ⟨rfl, rfl, rfl, iv (cnt_no (by omega) (by omega)), rfl, trivial⟩, ⟨by (try simp only); omega, hX⟩, by (try simp only); omega⟩
        · skip
          refine xl_pure rfl rfl rfl (pv_pick_t (v := .bool _) rfl rfl rfl) ?_
          refine xl_nil ?_
          refine xthen_normal ?_
          refine xc_cond_f rfl ?_
          refine xc_skip ?_
          refine xblock_normal ?_
          refine xthen_normal ?_
          refine xc_region ?_
          refine xl_pure rfl rfl rfl (pv_move (v := .int _ _) rfl rfl) ?_
          refine xl_pure rfl rfl rfl (pv_add rfl rfl rfl (fit_i64 (by omega))) ?_
          refine xl_pure rfl rfl rfl (pv_assign (v := .int _ _) rfl rfl) ?_
          refine xl_nil ?_
          refine xthen_normal ?_
          first
            | exact ⟨k + 1, ⟨rfl, rfl, rfl, iv (cnt_yes (by omega) (by assumption) (by assumption)), rfl, trivial⟩, ⟨by (try simp only); omega, hX⟩, by (try simp only); omega⟩
            | exact ⟨k + 1, ⟨rfl, rfl, rfl, iv (cnt_no (by omega) (by omega)), rfl, trivial⟩, ⟨by (try simp only); omega, hX⟩, by (try simp only); omega⟩
      · skip
        refine xl_pure rfl rfl rfl (pv_move (v := .bool _) rfl rfl) ?_
        refine xl_skip rfl rfl rfl ?_
        refine xl_skip rfl rfl rfl ?_
        refine xl_skip rfl rfl rfl ?_
        refine xl_skip rfl rfl rfl ?_
        refine xl_skip rfl rfl rfl ?_
        refine xl_skip rfl rfl rfl ?_
        refine xl_skip rfl rfl rfl ?_
        refine xl_pure rfl rfl rfl (pv_pick_f (v := .bool _) rfl rfl rfl) ?_
        refine xl_nil ?_
        refine xthen_normal ?_
        refine xc_cond_f rfl ?_
        refine xc_skip ?_
        refine xblock_normal ?_
        refine xthen_normal ?_
        refine xc_region ?_
        refine xl_pure rfl rfl rfl (pv_move (v := .int _ _) rfl rfl) ?_
        refine xl_pure rfl rfl rfl (pv_add rfl rfl rfl (fit_i64 (by omega))) ?_
        refine xl_pure rfl rfl rfl (pv_assign (v := .int _ _) rfl rfl) ?_
        refine xl_nil ?_
        refine xthen_normal ?_
        first
          | exact ⟨k + 1, ⟨rfl, rfl, rfl, iv (cnt_yes (by omega) (by assumption) (by assumption)), rfl, trivial⟩, ⟨by (try simp only); omega, hX⟩, by (try simp only); omega⟩
          | exact ⟨k + 1, ⟨rfl, rfl, rfl, iv (cnt_no (by omega) (by omega)), rfl, trivial⟩, ⟨by (try simp only); omega, hX⟩, by (try simp only); omega⟩
    · skip
      refine xl_nil ?_
      refine xthen_normal ?_
      refine xc_cond_f rfl ?_
      refine xc_exit ?_
      refine xthen_exit ?_
      refine xthen_exit ?_
      refine xblock_same ?_
      refine xthen_normal ?_
      refine xc_seq ?_
      refine xc_region ?_
      refine xl_pure rfl rfl rfl (pv_move (v := .int _ _) rfl rfl) ?_
      refine xl_pure rfl rfl rfl (pv_assign (v := .int _ _) rfl rfl) ?_
      refine xl_nil ?_
      refine xthen_normal ?_
      refine xc_ret ?_
      refine fin_ret (res1 (v := .int _ _) rfl rfl) ?_
      exact ⟨iv (by rw [List.take_of_length_le (by omega)]), hX⟩

theorem c17 {O : Outer} {H : Heap} (l : List (List Int)) (la : Option Addr) (lc : Nat) (hR : Rows H la 4 l) (hl : l.length ≤ 1048576) (f0 t0 : Int) :
    FnC Try.prog 17 #[.slice la (List.length l) lc, .int .i64 f0, .int .i64 t0] O H (fun v H' => ∃ a' c', v = .slice a' (List.length (l.filter (btw f0 t0))) c' ∧ Rows H' a' 4 (l.filter (btw f0 t0)) ∧ Ext H H') := by
  refine fn_enter (A := [.slice la (List.length l) lc, .int .i64 f0, .int .i64 t0]) Try.func17 rfl rfl ?_
  have hX := Ext.refl H
  refine xc_seq ?_
  refine xc_region ?_
  refine xl_pure rfl rfl rfl (pv_assign (v := .slice _ _ _) rfl rfl) ?_
  refine xl_nil ?_
  refine xthen_normal ?_
  refine xc_seq ?_
  refine xc_region ?_
  refine xl_pure rfl rfl rfl (pv_assign (v := .slice _ _ _) rfl rfl) ?_
  refine xl_nil ?_
  refine xthen_normal ?_
  refine xc_seq ?_
  refine xc_seq ?_
  refine xc_region ?_
  refine xl_pure rfl rfl rfl (pv_assign (v := .int _ _) rfl rfl) ?_
  refine xl_nil ?_
  refine xthen_normal ?_
  refine xc_block ?_
  refine xc_loop (τ := Nat × Value) (fun t => [(0, .slice la (List.length l) lc), (1, .int .i64 f0), (2, .int .i64 t0), (7, t.2), (8, .int .i64 (t.1 : Nat))]) (fun t H' => (t.1 ≤ l.length) ∧ (((l.take t.1).filter (btw f0 t0)).length ≤ t.1) ∧ (Own H' H.size 29 4 t.2 ((l.take t.1).filter (btw f0 t0)).length (fr ((l.take t.1).filter (btw f0 t0)))) ∧ (Ext H H')) (fun t H' => l.length - t.1) (0, .slice none 0 0) ?_ ?_ ?_
  · exact ⟨rfl, rfl, rfl, rfl, rfl, trivial⟩
  · skip
    exact ⟨Nat.zero_le _, Nat.le_refl _, Own.nil .., hX⟩
  · intro σ
    clear hX
    rintro ⟨k, vo7⟩ Hl3 ⟨hk, hko, ho, hX⟩
    replace hk : k ≤ l.length := hk
    replace hko : ((l.take k).filter (btw f0 t0)).length ≤ k := hko
    replace ho : Own Hl3 H.size 29 4 vo7 ((l.take k).filter (btw f0 t0)).length (fr ((l.take k).filter (btw f0 t0))) := ho
    replace hX : Ext H Hl3 := hX
    obtain ⟨va7, vc7, rfl⟩ := ho.val
    show XC _ _ _ (upds σ [(0, .slice la (List.length l) lc), (1, .int .i64 f0), (2, .int .i64 t0), (7, .slice va7 ((l.take k).filter (btw f0 t0)).length vc7), (8, .int .i64 (k : Nat))]) _
    refine xc_seq ?_
    refine xc_seq ?_
    refine xc_region ?_
    refine xl_pure rfl rfl rfl (pv_move (v := .int _ _) rfl rfl) ?_
    refine xl_pure rfl rfl rfl (pv_move (v := .slice _ _ _) rfl rfl) ?_
    refine xl_pure rfl rfl rfl (pv_len_l rfl rfl) ?_
    refine xl_dec rfl rfl rfl (pv_lss rfl rfl rfl) (fun h3_3 => ?_) (fun h3_3 => ?_)
    · skip
      refine xl_nil ?_
      refine xthen_normal ?_
      refine xc_cond_t rfl ?_
      refine xc_skip ?_
      refine xthen_normal ?_
      refine xc_seq ?_
      refine xc_block ?_
      refine xc_seq ?_
      obtain ⟨ba, off, hae, hsa⟩ := hR.2.resolve_left (by omega)
      subst hae
      refine xc_region ?_
      refine xl_pure rfl rfl rfl (pv_move (v := .slice _ _ _) rfl rfl) ?_
      refine xl_pure rfl rfl rfl (pv_move (v := .int _ _) rfl rfl) ?_
      refine xl_pure rfl rfl rfl (pv_indexAddr_l rfl rfl rfl (by omega)) ?_
      refine xl_pure rfl rfl rfl (pv_fieldAddr rfl rfl) ?_
      refine xl_light rfl rfl rfl (lv_load (v := .int _ _) rfl rfl (by exact ld_num (j := 0) (i := k) (RowsAt.ext hsa hX) hR.1 (by omega) (by omega))) ?_
      refine xl_pure rfl rfl rfl (pv_move (v := .int _ _) rfl rfl) ?_
      refine xl_dec rfl rfl rfl (pv_geq rfl rfl rfl) (fun h5_6 => ?_) (fun h5_6 => ?_)
      · skip
        refine xl_pure rfl rfl rfl (pv_move (v := .bool _) rfl rfl) ?_
        refine xl_pure rfl rfl rfl (pv_move (v := .slice _ _ _) rfl rfl) ?_
        refine xl_pure rfl rfl rfl (pv_move (v := .int _ _) rfl rfl) ?_
        refine xl_pure rfl rfl rfl (pv_indexAddr_l rfl rfl rfl (by omega)) ?_
        refine xl_pure rfl rfl rfl (pv_fieldAddr rfl rfl) ?_
        refine xl_light rfl rfl rfl (lv_load (v := .int _ _) rfl rfl (by exact ld_num (j := 0) (i := k) (RowsAt.ext hsa hX) hR.1 (by omega) (by omega))) ?_
        refine xl_pure rfl rfl rfl (pv_move (v := .int _ _) rfl rfl) ?_
        refine xl_dec rfl rfl rfl (pv_lss rfl rfl rfl) (fun h5_14 => ?_) (fun h5_14 => ?_)
        · skip
          refine xl_pure rfl rfl rfl (pv_pick_t (v := .bool _) rfl rfl rfl) ?_
          refine xl_nil ?_
          refine xthen_normal ?_
          refine xc_cond_t rfl ?_
          refine xc_region ?_
          refine xl_pure rfl rfl rfl (pv_move (v := .slice _ _ _) rfl rfl) ?_
          refine xl_pure rfl rfl rfl (pv_move (v := .slice _ _ _) rfl rfl) ?_
          refine xl_pure rfl rfl rfl (pv_move (v := .int _ _) rfl rfl) ?_
          refine xl_pure rfl rfl rfl (pv_indexAddr_l rfl rfl rfl (by omega)) ?_
          refine xl_light rfl rfl rfl (lv_load (v := .agg _) rfl rfl (by exact ld_row' (i := k) (RowsAt.ext hsa hX) hR.1 (by omega))) ?_
          refine xl_heavy rfl rfl rfl (hv_buildSlice (cs := ints (gr l k)) rfl rfl (parts1 (ints_len hR.1 (by omega))) rfl rfl) ?_
          rintro v6_5 H6_5 ⟨b6_5, rfl, hN6_5⟩
          have gb6_5 := hX.fresh hN6_5
          have pm6_5_ho := ho.apartN hN6_5
          have ho := ho.ext hN6_5.ext
          have hX := hX.trans hN6_5.ext
          have m6_5 := hN6_5.blk
          refine xl_heavy rfl rfl rfl (hv_append rfl rfl ho rfl (m6_5.row) (ints_len hR.1 (by omega)) (by simp [ints, Value.oneCell']) rfl (by decide) (by omega) (by omega) hX.size) ?_
          rintro v6_6 H6_6 ⟨hO6_6, hG6_6, -, hB6_6⟩
          have hX := ho.grown hX hG6_6 (Nat.le_refl _)
          obtain ⟨a6_6, c6_6, rfl⟩ := hO6_6.val
          refine xl_pure rfl rfl rfl (pv_assign (v := .slice _ _ _) rfl rfl) ?_
          refine xl_nil ?_
          refine xblock_normal ?_
          refine xthen_normal ?_
          refine xc_region ?_
          refine xl_pure rfl rfl rfl (pv_move (v := .int _ _) rfl rfl) ?_
          refine xl_pure rfl rfl rfl (pv_add rfl rfl rfl (fit_i64 (by omega))) ?_
          refine xl_pure rfl rfl rfl (pv_assign (v := .int _ _) rfl rfl) ?_
          refine xl_nil ?_
          refine xthen_normal ?_
          first
            | exact ⟨(k + 1, _), ⟨rfl, rfl, rfl, rfl, rfl, trivial⟩, ⟨by (try simp only); omega, by rw [flt_yes (by omega) (decide_eq_true (by omega))]; simp; omega, by rw [flt_yes (by omega) (decide_eq_true (by omega))]; simpa [fr_snoc] using hO6_6, hX⟩, by (try simp only); omega⟩
            | exact ⟨(k + 1, _), ⟨rfl, rfl, rfl, rfl, rfl, trivial⟩, ⟨by (try simp only); omega, by rw [flt_no (by omega) (decide_eq_false (by omega))]; omega, by rw [flt_no (by omega) (decide_eq_false (by omega))]; exact ho, hX⟩, by (try simp only); omega⟩
        · skip
          refine xl_pure rfl rfl rfl (pv_pick_t (v := .bool _) rfl rfl rfl) ?_
          refine xl_nil ?_
          refine xthen_normal ?_
          refine xc_cond_f rfl ?_
          refine xc_skip ?_
          refine xblock_normal ?_
          refine xthen_normal ?_
          refine xc_region ?_
          refine xl_pure rfl rfl rfl (pv_move (v := .int _ _) rfl rfl) ?_
          refine xl_pure rfl rfl rfl (pv_add rfl rfl rfl (fit_i64 (by omega))) ?_
          refine xl_pure rfl rfl rfl (pv_assign (v := .int _ _) rfl rfl) ?_
          refine xl_nil ?_
          refine xthen_normal ?_
          first
            | exact ⟨(k + 1, _), ⟨rfl, rfl, rfl, rfl, rfl, trivial⟩, ⟨by (try simp only); omega, by rw [flt_yes (by omega) (decide_eq_true (by omega))]; simp; omega, by rw [flt_yes (by omega) (decide_eq_true (by omega))]; simpa [fr_snoc] using hO6_6, hX⟩, by (try simp only); omega⟩
            | exact ⟨(k + 1, _), ⟨rfl, rfl, rfl, rfl, rfl, trivial⟩, ⟨by (try simp only); omega, by rw [flt_no (by omega) (decide_eq_false (by omega))]; omega, by rw [flt_no (by omega) (decide_eq_false (by omega))]; exact ho, hX⟩, by (try simp only); omega⟩
      · skip
        refine xl_pure rfl rfl rfl (pv_move (v := .bool _) rfl rfl) ?_
        refine xl_skip rfl rfl rfl ?_
        refine xl_skip rfl rfl rfl ?_
        refine xl_skip rfl rfl rfl ?_
        refine xl_skip rfl rfl rfl ?_
        refine xl_skip rfl rfl rfl ?_
        refine xl_skip rfl rfl rfl ?_
        refine xl_skip rfl rfl rfl ?_
        refine xl_pure rfl rfl rfl (pv_pick_f (v := .bool _) rfl rfl rfl) ?_
        refine xl_nil ?_
        refine xthen_normal ?_
        refine xc_cond_f rfl ?_
        refine xc_skip ?_
        refine xblock_normal ?_
        refine xthen_normal ?_
        refine xc_region ?_
        refine xl_pure rfl rfl rfl (pv_move (v := .int _ _) rfl rfl) ?_
        refine xl_pure rfl rfl rfl (pv_add rfl rfl rfl (fit_i64 (by omega))) ?_
        refine xl_pure rfl rfl rfl (pv_assign (v := .int _ _) rfl rfl) ?_
        refine xl_nil ?_
        refine xthen_normal ?_
        first
          | exact ⟨(k + 1, _), ⟨rfl, rfl, rfl, rfl, rfl, trivial⟩, ⟨by (try simp only); omega, by rw [flt_yes (by omega) (decide_eq_true (by omega))]; simp; omega, by rw [flt_yes (by omega) (decide_eq_true (by omega))]; simpa [fr_snoc] using hO6_6, hX⟩, by (try simp only); omega⟩
          | exact ⟨(k + 1, _), ⟨rfl, rfl, rfl, rfl, rfl, trivial⟩, ⟨by (try simp only); omega, by rw [flt_no (by omega) (decide_eq_false (by omega))]; omega, by rw [flt_no (by omega) (decide_eq_false (by omega))]; exact ho, hX⟩, by (try simp only); omega⟩
    · skip
      refine xl_nil ?_
      refine xthen_normal ?_
      refine xc_cond_f rfl ?_
      refine xc_exit ?_
      refine xthen_exit ?_
      refine xthen_exit ?_
      refine xblock_same ?_
      refine xthen_normal ?_
      refine xc_seq ?_
      refine xc_region ?_
      refine xl_pure rfl rfl rfl (pv_move (v := .slice _ _ _) rfl rfl) ?_
      refine xl_pure rfl rfl rfl (pv_assign (v := .slice _ _ _) rfl rfl) ?_
      refine xl_nil ?_
      refine xthen_normal ?_
      refine xc_ret ?_
      refine fin_ret (res1 (v := .slice _ _ _) rfl rfl) ?_
      have ht : l.take k = l := List.take_of_length_le (by omega)
      rw [ht] at ho
      exact ⟨va7, vc7, by rw [ht], own_rows (hR.1.filter _) ho, hX⟩
end Go.XG
