/-
  Walks of the seat's functions over the logic XG: each function, what it computes. Printed by a program out of wip/walks.py.
-/
import Derived.Test.YtoabjfmegnjicaaI
import Derived.Test.YtoabjfmegnjicaaTo
import Derived.Test.YtoabjfmegnjicaaTa
import Derived.Test.YtoabjfmegnjicaaTb
import Derived.Test.YtoabjfmegnjicaaTc
import Derived.Test.YtoabjfmegnjicaaTd
import Derived.Test.YtoabjfmegnjicaaQ
import Derived.Test.YtoabjfmegnjicaaWa
import Derived.Test.YtoabjfmegnjicaaWb
import Derived.Test.YtoabjfmegnjicaaWc
import Derived.Test.YtoabjfmegnjicaaWd
import Derived.Test.YtoabjfmegnjicaaWe
import Derived.Test.YtoabjfmegnjicaaB
import Derived.Test.YtoabjfmegnjicaaWf
import Derived.Test.YtoabjfmegnjicaaD
import Derived.Test.YtoabjfmegnjicaaWg
import Derived.Test.YtoabjfmegnjicaaWh
import Derived.Test.YtoabjfmegnjicaaWi
import Derived.Test.YtoabjfmegnjicaaE
import Derived.Test.YtoabjfmegnjicaaWj
import Derived.Test.YtoabjfmegnjicaaWk
namespace Go.XG
open Go.Proofs
set_option maxRecDepth 4000
set_option maxHeartbeats 4000000
theorem c43 {O : Outer} {H : Heap} {a : Option Addr} {c : Nat} {l : List (List Int)} (hx : RowsT H 74 5 a l) (hg : GooL l) (hl : l.length < 900000) (k0 k1 k2 k3 : Int) {sa : Option Addr} {sc : Nat} {s : List Stack} (hS : Stks H sa s) (hsl : s.length < 1099511627776) :
    FnC Try.prog 43 #[.slice a l.length c, .agg #[.int .i64 k0, .int .i64 k1, .int .i64 k2, .int .i64 k3], .slice sa s.length sc] O H (fun v H' => ∃ a' c', v = .tuple #[.slice a' (allX true l k0 k1 k2 s).length c', .int .i64 (allE true l k0 k1 k2 s)] ∧ RowsT H' 74 5 a' (allX true l k0 k1 k2 s) ∧ Ext H H') := by
  refine fn_enter (A := [.slice a l.length c, .agg #[.int .i64 k0, .int .i64 k1, .int .i64 k2, .int .i64 k3], .slice sa s.length sc]) Try.func43 rfl rfl ?_
  have hX := Ext.refl H
  refine xc_seq ?_
  refine xc_region ?_
  refine xl_heavy rfl rfl rfl (hv_box rfl rfl) ?_
  rintro v0_0 H0_0 ⟨b0_0, rfl, hN0_0⟩
  have gb0_0 := hX.fresh hN0_0
  have hX := hX.trans hN0_0.ext
  have m0_0 := hN0_0.blk
  refine xl_pure rfl rfl rfl (pv_assign (v := .slice _ _ _) rfl rfl) ?_
  refine xl_pure rfl rfl rfl (pv_assign (v := .int _ _) rfl rfl) ?_
  refine xl_nil ?_
  refine xthen_normal ?_
  refine xc_seq ?_
  refine xc_seq ?_
  refine xc_region ?_
  refine xl_light rfl rfl rfl (lv_load (v := .agg _) rfl rfl (ld_blk_a m0_0 rfl rfl)) ?_
  refine xl_heavy rfl rfl rfl (hv_call (g := 45) rfl rfl (c45 k0 k1 k2 k3 1) rfl) ?_
  rintro v1_1 H1_1 ⟨rfl, hE1_1⟩
  have m0_0 := m0_0.ext hE1_1
  have hX := hX.trans hE1_1
  refine xl_heavy rfl rfl rfl (hv_call (g := 38) rfl rfl (c38 k0 k1 k2 1) rfl) ?_
  rintro v1_2 H1_2 ⟨hv1_2, hE1_2⟩
  have m0_0 := m0_0.ext hE1_2
  have hX := hX.trans hE1_2
  rcases hv1_2 with ⟨hi1_2, rfl⟩ | ⟨hi1_2, rfl⟩
  · skip
    refine xl_pure rfl rfl rfl (pv_not rfl rfl) ?_
    refine xl_pure rfl rfl rfl (pv_move (v := .bool _) rfl rfl) ?_
    refine xl_pure rfl rfl rfl (pv_move (v := .slice _ _ _) rfl rfl) ?_
    refine xl_heavy rfl rfl rfl (hv_call (g := 54) rfl rfl (gRCheck s sa sc 32 (hS.ext hX) (by omega)) rfl) ?_
    rintro v1_6 H1_6 ⟨e1_6, rfl, hg1_6, hE1_6⟩
    have m0_0 := m0_0.ext hE1_6
    have hX := hX.trans hE1_6
    rcases hg1_6 with ⟨hg1_6, rfl⟩ | ⟨hg1_6, rfl⟩
    · skip
      refine xl_ndec rfl rfl rfl (pv_neq rfl rfl rfl) (fun h1_7 => ?_) (fun h1_7 => ?_)
      · skip
        refine xl_pure rfl rfl rfl (pv_pick_f (v := .bool _) rfl rfl rfl) ?_
        refine xl_nil ?_
        refine xthen_normal ?_
        refine xc_cond_f rfl ?_
        refine xc_skip ?_
        refine xthen_normal ?_
        refine xc_seq ?_
        refine xc_region ?_
        refine xl_pure rfl rfl rfl (pv_move (v := .slice _ _ _) rfl rfl) ?_
        refine xl_pure rfl rfl rfl (pv_assign (v := .slice _ _ _) rfl rfl) ?_
        refine xl_nil ?_
        refine xthen_normal ?_
        refine xc_seq ?_
        refine xc_seq ?_
        refine xc_region ?_
        refine xl_pure rfl rfl rfl (pv_assign (v := .int _ _) rfl rfl) ?_
        refine xl_nil ?_
        refine xthen_normal ?_
        refine xc_block ?_
        refine xc_loop (τ := Nat × List (List Int) × Option Addr × Nat) (fun t => [(0, .slice a l.length c), (2, .slice sa s.length sc), (4, .pointer (some ⟨b0_0, 0, none⟩)), (8, .slice t.2.2.1 t.2.1.length t.2.2.2), (9, .int .i64 (t.1 : Nat))]) (fun t H' => (t.1 ≤ s.length) ∧ (runE true k0 k1 k2 l s = runE true k0 k1 k2 t.2.1 (s.drop t.1)) ∧ (runX true k0 k1 k2 l s = runX true k0 k1 k2 t.2.1 (s.drop t.1)) ∧ (GooL t.2.1) ∧ (t.2.1.length ≤ l.length + t.1) ∧ (RowsT H' 74 5 t.2.2.1 t.2.1) ∧ (Blk H' b0_0 [.int .i64 k0, .int .i64 k1, .int .i64 k2, .int .i64 k3] 23) ∧ (Ext H H')) (fun t H' => s.length - t.1) (0, l, a, c) ?_ ?_ ?_
        · exact ⟨rfl, rfl, rfl, rfl, rfl, trivial⟩
        · skip
          exact ⟨Nat.zero_le _, rfl, rfl, hg, Nat.le_refl _, hx.ext hX, m0_0, hX⟩
        · intro σ
          clear hX m0_0
          rintro ⟨i, y, a1, c1⟩ Hl5 ⟨hi, hre, hrx, hgy, hly, hQ, m0_0, hX⟩
          replace hi : i ≤ s.length := hi
          replace hre : runE true k0 k1 k2 l s = runE true k0 k1 k2 y (s.drop i) := hre
          replace hrx : runX true k0 k1 k2 l s = runX true k0 k1 k2 y (s.drop i) := hrx
          replace hgy : GooL y := hgy
          replace hly : y.length ≤ l.length + i := hly
          replace hQ : RowsT Hl5 74 5 a1 y := hQ
          replace m0_0 : Blk Hl5 b0_0 [.int .i64 k0, .int .i64 k1, .int .i64 k2, .int .i64 k3] 23 := m0_0
          replace hX : Ext H Hl5 := hX
          obtain ⟨sb, so, hse⟩ := (hS.ext hX).at'
          have h8 := hg1_6.2
          have hok : AllOk k0 k1 k2 s := ⟨hi1_2, hg1_6⟩
          show XC _ _ _ (upds σ [(0, .slice a l.length c), (2, .slice sa s.length sc), (4, .pointer (some ⟨b0_0, 0, none⟩)), (8, .slice a1 y.length c1), (9, .int .i64 (i : Nat))]) _
          refine xc_seq ?_
          refine xc_seq ?_
          refine xc_region ?_
          refine xl_pure rfl rfl rfl (pv_move (v := .int _ _) rfl rfl) ?_
          refine xl_pure rfl rfl rfl (pv_move (v := .slice _ _ _) rfl rfl) ?_
          refine xl_pure rfl rfl rfl (pv_len_l rfl rfl) ?_
          refine xl_dec rfl rfl rfl (pv_lss rfl rfl rfl) (fun h5_3 => ?_) (fun h5_3 => ?_)
          · skip
            refine xl_nil ?_
            refine xthen_normal ?_
            refine xc_cond_t rfl ?_
            refine xc_skip ?_
            refine xthen_normal ?_
            refine xc_seq ?_
            refine xc_block ?_
            refine xc_seq ?_
            obtain ⟨hx1, hx2, hq1, hq2⟩ := goods_at hg1_6 (show i < s.length by omega)
            refine xp_start rfl (by repeat (first | with_reducible exact np_fin | with_reducible exact np_ret | with_reducible refine np_then ?_ | with_reducible refine np_block ?_)) (by kernel_rfl) ?_
            refine xp_pure (i := 0) rfl (by kernel_rfl) (by kernel_rfl) rfl rfl rfl (pv_move (v := .slice _ _ _) rfl rfl) ?_
            refine xp_light (i := 1) rfl (by kernel_rfl) (by kernel_rfl) rfl rfl rfl (lv_load (v := .agg _) rfl rfl (ld_blk_a m0_0 rfl rfl)) ?_
            refine xp_pure (i := 2) rfl (by kernel_rfl) (by kernel_rfl) rfl rfl rfl (pv_move (v := .slice _ _ _) rfl rfl) ?_
            refine xp_pure (i := 3) rfl (by kernel_rfl) (by kernel_rfl) rfl rfl rfl (pv_move (v := .int _ _) rfl rfl) ?_
            refine xp_pure (i := 4) rfl (by kernel_rfl) (by kernel_rfl) rfl rfl rfl (pv_indexAddr_l rfl (sl_eq (hse (by omega)).1) rfl (by omega)) ?_
            refine xp_pure (i := 5) rfl (by kernel_rfl) (by kernel_rfl) rfl rfl rfl (pv_fieldAddr rfl rfl) ?_
            refine xp_light (i := 6) rfl (by kernel_rfl) (by kernel_rfl) rfl rfl rfl (lv_load (v := .int _ _) rfl rfl (by exact ((hse (by omega)).2 i (by omega)).1)) ?_
            refine xp_pure (i := 8) rfl (by kernel_rfl) (by kernel_rfl) rfl rfl rfl (pv_move (v := .slice _ _ _) rfl rfl) ?_
            refine xp_pure (i := 9) rfl (by kernel_rfl) (by kernel_rfl) rfl rfl rfl (pv_move (v := .int _ _) rfl rfl) ?_
            refine xp_pure (i := 10) rfl (by kernel_rfl) (by kernel_rfl) rfl rfl rfl (pv_indexAddr_l rfl (sl_eq (hse (by omega)).1) rfl (by omega)) ?_
            refine xp_pure (i := 11) rfl (by kernel_rfl) (by kernel_rfl) rfl rfl rfl (pv_fieldAddr rfl rfl) ?_
            refine xp_light (i := 12) rfl (by kernel_rfl) (by kernel_rfl) rfl rfl rfl (lv_load (v := .int _ _) rfl rfl (by first | exact ((hse (by omega)).2 i (by omega)).2 | exact cellAt_ext ((hse (by omega)).2 i (by omega)).2 hE7_7)) ?_
            refine xp_heavy (i := 7) (by kernel_rfl) ?_
            refine xph_val rfl rfl rfl rfl (hv_call (g := 45) rfl rfl (c45 k0 k1 k2 k3 (gx s i)) rfl) (pk (by kernel_rfl) (pd (by kernel_rfl) (pd (by kernel_rfl) pn))) ?_
            rintro v7_7 H7_7 ⟨rfl, hE7_7⟩
            have m0_0 := m0_0.ext hE7_7
            have hQ := hQ.ext hE7_7
            have hX := hX.trans hE7_7
            refine ⟨(okc (lv_load (v := .int _ _) rfl rfl (by first | exact ((hse (by omega)).2 i (by omega)).2 | exact cellAt_ext ((hse (by omega)).2 i (by omega)).2 hE7_7)) okn), ?_⟩
            refine xp_heavy (i := 13) (by kernel_rfl) ?_
            refine xph_val rfl rfl rfl rfl (hv_call (g := 40) rfl rfl (c40 hQ hgy (by omega) k0 k1 k2 (gx s i) (gq s i) (by omega)) rfl) (pd (by kernel_rfl) pn) ?_
            rintro v7_13 H7_13 ⟨a7_13, c7_13, rfl, hQ7_13, hE7_13⟩
            have m0_0 := m0_0.ext hE7_13
            have hQ := hQ.ext hE7_13
            have hX := hX.trans hE7_13
            refine ⟨okn, ?_⟩
            refine xp_pure (i := 14) rfl (by kernel_rfl) (by kernel_rfl) rfl rfl rfl (pv_move (v := .tuple _) rfl rfl) ?_
            refine xp_pure (i := 15) rfl (by kernel_rfl) (by kernel_rfl) rfl rfl rfl (pv_extract (v := .slice _ _ _) rfl rfl rfl) ?_
            refine xp_pure (i := 16) rfl (by kernel_rfl) (by kernel_rfl) rfl rfl rfl (pv_extract (v := .int _ _) rfl rfl rfl) ?_
            refine xp_pure (i := 17) rfl (by kernel_rfl) (by kernel_rfl) rfl rfl rfl (pv_assign (v := .slice _ _ _) rfl rfl) ?_
            refine xp_pure (i := 18) rfl (by kernel_rfl) (by kernel_rfl) rfl rfl rfl (pv_assign (v := .int _ _) rfl rfl) ?_
            refine xp_done (by kernel_rfl) ?_
            refine xthen_normal ?_
            refine xc_seq ?_
            refine xc_seq ?_
            refine xc_region ?_
            refine xl_pure rfl rfl rfl (pv_move (v := .int _ _) rfl rfl) ?_
            refine xl_ndec rfl rfl rfl (pv_neq rfl rfl rfl) (fun h8_1 => ?_) (fun h8_1 => ?_)
            · skip
              refine xl_nil ?_
              refine xthen_normal ?_
              refine xc_cond_f rfl ?_
              refine xc_skip ?_
              refine xthen_normal ?_
              refine xc_region ?_
              refine xl_pure rfl rfl rfl (pv_move (v := .slice _ _ _) rfl rfl) ?_
              refine xl_pure rfl rfl rfl (pv_assign (v := .slice _ _ _) rfl rfl) ?_
              refine xl_nil ?_
              refine xblock_normal ?_
              refine xthen_normal ?_
              refine xc_region ?_
              refine xl_pure rfl rfl rfl (pv_move (v := .int _ _) rfl rfl) ?_
              refine xl_pure rfl rfl rfl (pv_add rfl rfl rfl (fit_i64 (by omega))) ?_
              refine xl_pure rfl rfl rfl (pv_assign (v := .int _ _) rfl rfl) ?_
              refine xl_nil ?_
              refine xthen_normal ?_
              exact ⟨(i + 1, _, _, _), ⟨rfl, rfl, rfl, rfl, rfl, trivial⟩, ⟨by (try simp only); omega, hre.trans (run_next (d := true) (by omega) h8_1).1, hrx.trans (run_next (d := true) (by omega) h8_1).2, (goo_d (d := true) hgy rfl).1, Nat.le_trans (goo_d (d := true) hgy rfl).2 (by omega), hQ7_13, m0_0, hX⟩, by (try simp only); omega⟩
            · skip
              refine xl_nil ?_
              refine xthen_normal ?_
              refine xc_cond_t rfl ?_
              refine xc_seq ?_
              refine xc_region ?_
              refine xl_pure rfl rfl rfl (pv_move (v := .slice _ _ _) rfl rfl) ?_
              refine xl_pure rfl rfl rfl (pv_move (v := .int _ _) rfl rfl) ?_
              refine xl_pure rfl rfl rfl (pv_assign (v := .slice _ _ _) rfl rfl) ?_
              refine xl_pure rfl rfl rfl (pv_assign (v := .int _ _) rfl rfl) ?_
              refine xl_nil ?_
              refine xthen_normal ?_
              refine xc_ret ?_
              refine xthen_ret ?_
              refine xblock_ret ?_
              refine xthen_ret ?_
              refine xthen_ret ?_
              refine xblock_ret ?_
              refine xthen_ret ?_
              refine fin_ret (res2 (v := .slice _ _ _) (x := .int _ _) rfl rfl rfl) ?_
              obtain ⟨e1, e2⟩ := all_stop hok (hre.trans (run_stop (d := true) (by omega) h8_1)) h8_1
              exact ⟨a, c, by rw [e1, e2]; rfl, by rw [e2]; exact hx.ext hX, hX⟩
          · skip
            refine xl_nil ?_
            refine xthen_normal ?_
            refine xc_cond_f rfl ?_
            refine xc_exit ?_
            refine xthen_exit ?_
            refine xthen_exit ?_
            refine xblock_same ?_
            refine xthen_normal ?_
            refine xc_seq ?_
            refine xc_region ?_
            refine xl_pure rfl rfl rfl (pv_move (v := .slice _ _ _) rfl rfl) ?_
            refine xl_pure rfl rfl rfl (pv_assign (v := .slice _ _ _) rfl rfl) ?_
            refine xl_pure rfl rfl rfl (pv_assign (v := .int _ _) rfl rfl) ?_
            refine xl_nil ?_
            refine xthen_normal ?_
            refine xc_ret ?_
            refine fin_ret (res2 (v := .slice _ _ _) (x := .int _ _) rfl rfl rfl) ?_
            obtain rfl : i = s.length := by omega
            obtain ⟨e1, e2⟩ := all_done hok (hre.trans run_end.1) (hrx.trans run_end.2)
            exact ⟨a1, c1, by rw [e1, e2], by rw [e2]; exact hQ, hX⟩
      · exact absurd (by decide) h1_7
    · skip
      refine xl_ndec rfl rfl rfl (pv_neq rfl rfl rfl) (fun h1_7 => ?_) (fun h1_7 => ?_)
      · exact absurd h1_7 (by decide)
      · skip
        refine xl_pure rfl rfl rfl (pv_pick_f (v := .bool _) rfl rfl rfl) ?_
        refine xl_nil ?_
        refine xthen_normal ?_
        refine xc_cond_t rfl ?_
        refine xc_seq ?_
        refine xc_region ?_
        refine xl_pure rfl rfl rfl (pv_move (v := .slice _ _ _) rfl rfl) ?_
        refine xl_pure rfl rfl rfl (pv_assign (v := .slice _ _ _) rfl rfl) ?_
        refine xl_pure rfl rfl rfl (pv_assign (v := .int _ _) rfl rfl) ?_
        refine xl_nil ?_
        refine xthen_normal ?_
        refine xc_ret ?_
        refine xthen_ret ?_
        refine fin_ret (res2 (v := .slice _ _ _) (x := .int _ _) rfl rfl rfl) ?_
        obtain ⟨e1, e2⟩ := all_arg (d := true) (l := l) (k0 := k0) (k1 := k1) (k2 := k2) (s := s) (fun h => by first | exact hi1_2 h.1 | exact hg1_6 h.2)
        exact ⟨a, c, by rw [e1, e2], by rw [e2]; exact hx.ext hX, hX⟩
  · skip
    refine xl_pure rfl rfl rfl (pv_not rfl rfl) ?_
    refine xl_pure rfl rfl rfl (pv_move (v := .bool _) rfl rfl) ?_
    refine xl_skip rfl rfl rfl ?_
    refine xl_skip rfl rfl rfl ?_
    refine xl_skip rfl rfl rfl ?_
    refine xl_pure rfl rfl rfl (pv_pick_t (v := .bool _) rfl rfl rfl) ?_
    refine xl_nil ?_
    refine xthen_normal ?_
    refine xc_cond_t rfl ?_
    refine xc_seq ?_
    refine xc_region ?_
    refine xl_pure rfl rfl rfl (pv_move (v := .slice _ _ _) rfl rfl) ?_
    refine xl_pure rfl rfl rfl (pv_assign (v := .slice _ _ _) rfl rfl) ?_
    refine xl_pure rfl rfl rfl (pv_assign (v := .int _ _) rfl rfl) ?_
    refine xl_nil ?_
    refine xthen_normal ?_
    refine xc_ret ?_
    refine xthen_ret ?_
    refine fin_ret (res2 (v := .slice _ _ _) (x := .int _ _) rfl rfl rfl) ?_
    obtain ⟨e1, e2⟩ := all_arg (d := true) (l := l) (k0 := k0) (k1 := k1) (k2 := k2) (s := s) (fun h => by first | exact hi1_2 h.1 | exact hg1_6 h.2)
    exact ⟨a, c, by rw [e1, e2], by rw [e2]; exact hx.ext hX, hX⟩

theorem c44 {O : Outer} {H : Heap} {a : Option Addr} {c : Nat} {l : List (List Int)} (hx : RowsT H 74 5 a l) (hg : GooL l) (hl : l.length < 900000) (k0 k1 k2 k3 : Int) {sa : Option Addr} {sc : Nat} {s : List Stack} (hS : Stks H sa s) (hsl : s.length < 1099511627776) :
    FnC Try.prog 44 #[.slice a l.length c, .agg #[.int .i64 k0, .int .i64 k1, .int .i64 k2, .int .i64 k3], .slice sa s.length sc] O H (fun v H' => ∃ a' c', v = .tuple #[.slice a' (allX false l k0 k1 k2 s).length c', .int .i64 (allE false l k0 k1 k2 s)] ∧ RowsT H' 74 5 a' (allX false l k0 k1 k2 s) ∧ Ext H H') := by
  refine fn_enter (A := [.slice a l.length c, .agg #[.int .i64 k0, .int .i64 k1, .int .i64 k2, .int .i64 k3], .slice sa s.length sc]) Try.func44 rfl rfl ?_
  have hX := Ext.refl H
  refine xc_seq ?_
  refine xc_region ?_
  refine xl_heavy rfl rfl rfl (hv_box rfl rfl) ?_
  rintro v0_0 H0_0 ⟨b0_0, rfl, hN0_0⟩
  have gb0_0 := hX.fresh hN0_0
  have hX := hX.trans hN0_0.ext
  have m0_0 := hN0_0.blk
  refine xl_pure rfl rfl rfl (pv_assign (v := .slice _ _ _) rfl rfl) ?_
  refine xl_pure rfl rfl rfl (pv_assign (v := .int _ _) rfl rfl) ?_
  refine xl_nil ?_
  refine xthen_normal ?_
  refine xc_seq ?_
  refine xc_seq ?_
  refine xc_region ?_
  refine xl_light rfl rfl rfl (lv_load (v := .agg _) rfl rfl (ld_blk_a m0_0 rfl rfl)) ?_
  refine xl_heavy rfl rfl rfl (hv_call (g := 45) rfl rfl (c45 k0 k1 k2 k3 1) rfl) ?_
  rintro v1_1 H1_1 ⟨rfl, hE1_1⟩
  have m0_0 := m0_0.ext hE1_1
  have hX := hX.trans hE1_1
  refine xl_heavy rfl rfl rfl (hv_call (g := 38) rfl rfl (c38 k0 k1 k2 1) rfl) ?_
  rintro v1_2 H1_2 ⟨hv1_2, hE1_2⟩
  have m0_0 := m0_0.ext hE1_2
  have hX := hX.trans hE1_2
  rcases hv1_2 with ⟨hi1_2, rfl⟩ | ⟨hi1_2, rfl⟩
  · skip
    refine xl_pure rfl rfl rfl (pv_not rfl rfl) ?_
    refine xl_pure rfl rfl rfl (pv_move (v := .bool _) rfl rfl) ?_
    refine xl_pure rfl rfl rfl (pv_move (v := .slice _ _ _) rfl rfl) ?_
    refine xl_heavy rfl rfl rfl (hv_call (g := 54) rfl rfl (gRCheck s sa sc 32 (hS.ext hX) (by omega)) rfl) ?_
    rintro v1_6 H1_6 ⟨e1_6, rfl, hg1_6, hE1_6⟩
    have m0_0 := m0_0.ext hE1_6
    have hX := hX.trans hE1_6
    rcases hg1_6 with ⟨hg1_6, rfl⟩ | ⟨hg1_6, rfl⟩
    · skip
      refine xl_ndec rfl rfl rfl (pv_neq rfl rfl rfl) (fun h1_7 => ?_) (fun h1_7 => ?_)
      · skip
        refine xl_pure rfl rfl rfl (pv_pick_f (v := .bool _) rfl rfl rfl) ?_
        refine xl_nil ?_
        refine xthen_normal ?_
        refine xc_cond_f rfl ?_
        refine xc_skip ?_
        refine xthen_normal ?_
        refine xc_seq ?_
        refine xc_region ?_
        refine xl_pure rfl rfl rfl (pv_move (v := .slice _ _ _) rfl rfl) ?_
        refine xl_pure rfl rfl rfl (pv_assign (v := .slice _ _ _) rfl rfl) ?_
        refine xl_nil ?_
        refine xthen_normal ?_
        refine xc_seq ?_
        refine xc_seq ?_
        refine xc_region ?_
        refine xl_pure rfl rfl rfl (pv_assign (v := .int _ _) rfl rfl) ?_
        refine xl_nil ?_
        refine xthen_normal ?_
        refine xc_block ?_
        refine xc_loop (τ := Nat × List (List Int) × Option Addr × Nat) (fun t => [(0, .slice a l.length c), (2, .slice sa s.length sc), (4, .pointer (some ⟨b0_0, 0, none⟩)), (8, .slice t.2.2.1 t.2.1.length t.2.2.2), (9, .int .i64 (t.1 : Nat))]) (fun t H' => (t.1 ≤ s.length) ∧ (runE false k0 k1 k2 l s = runE false k0 k1 k2 t.2.1 (s.drop t.1)) ∧ (runX false k0 k1 k2 l s = runX false k0 k1 k2 t.2.1 (s.drop t.1)) ∧ (GooL t.2.1) ∧ (t.2.1.length ≤ l.length + t.1) ∧ (RowsT H' 74 5 t.2.2.1 t.2.1) ∧ (Blk H' b0_0 [.int .i64 k0, .int .i64 k1, .int .i64 k2, .int .i64 k3] 23) ∧ (Ext H H')) (fun t H' => s.length - t.1) (0, l, a, c) ?_ ?_ ?_
        · exact ⟨rfl, rfl, rfl, rfl, rfl, trivial⟩
        · skip
          exact ⟨Nat.zero_le _, rfl, rfl, hg, Nat.le_refl _, hx.ext hX, m0_0, hX⟩
        · intro σ
          clear hX m0_0
          rintro ⟨i, y, a1, c1⟩ Hl5 ⟨hi, hre, hrx, hgy, hly, hQ, m0_0, hX⟩
          replace hi : i ≤ s.length := hi
          replace hre : runE false k0 k1 k2 l s = runE false k0 k1 k2 y (s.drop i) := hre
          replace hrx : runX false k0 k1 k2 l s = runX false k0 k1 k2 y (s.drop i) := hrx
          replace hgy : GooL y := hgy
          replace hly : y.length ≤ l.length + i := hly
          replace hQ : RowsT Hl5 74 5 a1 y := hQ
          replace m0_0 : Blk Hl5 b0_0 [.int .i64 k0, .int .i64 k1, .int .i64 k2, .int .i64 k3] 23 := m0_0
          replace hX : Ext H Hl5 := hX
          obtain ⟨sb, so, hse⟩ := (hS.ext hX).at'
          have h8 := hg1_6.2
          have hok : AllOk k0 k1 k2 s := ⟨hi1_2, hg1_6⟩
          show XC _ _ _ (upds σ [(0, .slice a l.length c), (2, .slice sa s.length sc), (4, .pointer (some ⟨b0_0, 0, none⟩)), (8, .slice a1 y.length c1), (9, .int .i64 (i : Nat))]) _
          refine xc_seq ?_
          refine xc_seq ?_
          refine xc_region ?_
          refine xl_pure rfl rfl rfl (pv_move (v := .int _ _) rfl rfl) ?_
          refine xl_pure rfl rfl rfl (pv_move (v := .slice _ _ _) rfl rfl) ?_
          refine xl_pure rfl rfl rfl (pv_len_l rfl rfl) ?_
          refine xl_dec rfl rfl rfl (pv_lss rfl rfl rfl) (fun h5_3 => ?_) (fun h5_3 => ?_)
          · skip
            refine xl_nil ?_
            refine xthen_normal ?_
            refine xc_cond_t rfl ?_
            refine xc_skip ?_
            refine xthen_normal ?_
            refine xc_seq ?_
            refine xc_block ?_
            refine xc_seq ?_
            obtain ⟨hx1, hx2, hq1, hq2⟩ := goods_at hg1_6 (show i < s.length by omega)
            refine xp_start rfl (by repeat (first | with_reducible exact np_fin | with_reducible exact np_ret | with_reducible refine np_then ?_ | with_reducible refine np_block ?_)) (by kernel_rfl) ?_
            refine xp_pure (i := 0) rfl (by kernel_rfl) (by kernel_rfl) rfl rfl rfl (pv_move (v := .slice _ _ _) rfl rfl) ?_
            refine xp_light (i := 1) rfl (by kernel_rfl) (by kernel_rfl) rfl rfl rfl (lv_load (v := .agg _) rfl rfl (ld_blk_a m0_0 rfl rfl)) ?_
            refine xp_pure (i := 2) rfl (by kernel_rfl) (by kernel_rfl) rfl rfl rfl (pv_move (v := .slice _ _ _) rfl rfl) ?_
            refine xp_pure (i := 3) rfl (by kernel_rfl) (by kernel_rfl) rfl rfl rfl (pv_move (v := .int _ _) rfl rfl) ?_
            refine xp_pure (i := 4) rfl (by kernel_rfl) (by kernel_rfl) rfl rfl rfl (pv_indexAddr_l rfl (sl_eq (hse (by omega)).1) rfl (by omega)) ?_
            refine xp_pure (i := 5) rfl (by kernel_rfl) (by kernel_rfl) rfl rfl rfl (pv_fieldAddr rfl rfl) ?_
            refine xp_light (i := 6) rfl (by kernel_rfl) (by kernel_rfl) rfl rfl rfl (lv_load (v := .int _ _) rfl rfl (by exact ((hse (by omega)).2 i (by omega)).1)) ?_
            refine xp_pure (i := 8) rfl (by kernel_rfl) (by kernel_rfl) rfl rfl rfl (pv_move (v := .slice _ _ _) rfl rfl) ?_
            refine xp_pure (i := 9) rfl (by kernel_rfl) (by kernel_rfl) rfl rfl rfl (pv_move (v := .int _ _) rfl rfl) ?_
            refine xp_pure (i := 10) rfl (by kernel_rfl) (by kernel_rfl) rfl rfl rfl (pv_indexAddr_l rfl (sl_eq (hse (by omega)).1) rfl (by omega)) ?_
            refine xp_pure (i := 11) rfl (by kernel_rfl) (by kernel_rfl) rfl rfl rfl (pv_fieldAddr rfl rfl) ?_
            refine xp_light (i := 12) rfl (by kernel_rfl) (by kernel_rfl) rfl rfl rfl (lv_load (v := .int _ _) rfl rfl (by first | exact ((hse (by omega)).2 i (by omega)).2 | exact cellAt_ext ((hse (by omega)).2 i (by omega)).2 hE7_7)) ?_
            refine xp_heavy (i := 7) (by kernel_rfl) ?_
            refine xph_val rfl rfl rfl rfl (hv_call (g := 45) rfl rfl (c45 k0 k1 k2 k3 (gx s i)) rfl) (pk (by kernel_rfl) (pd (by kernel_rfl) (pd (by kernel_rfl) pn))) ?_
            rintro v7_7 H7_7 ⟨rfl, hE7_7⟩
            have m0_0 := m0_0.ext hE7_7
            have hQ := hQ.ext hE7_7
            have hX := hX.trans hE7_7
            refine ⟨(okc (lv_load (v := .int _ _) rfl rfl (by first | exact ((hse (by omega)).2 i (by omega)).2 | exact cellAt_ext ((hse (by omega)).2 i (by omega)).2 hE7_7)) okn), ?_⟩
            refine xp_heavy (i := 13) (by kernel_rfl) ?_
            refine xph_val rfl rfl rfl rfl (hv_call (g := 41) rfl rfl (c41 hQ hgy (by omega) k0 k1 k2 (gx s i) (gq s i)) rfl) (pd (by kernel_rfl) pn) ?_
            rintro v7_13 H7_13 ⟨a7_13, c7_13, rfl, hQ7_13, hE7_13⟩
            have m0_0 := m0_0.ext hE7_13
            have hQ := hQ.ext hE7_13
            have hX := hX.trans hE7_13
            refine ⟨okn, ?_⟩
            refine xp_pure (i := 14) rfl (by kernel_rfl) (by kernel_rfl) rfl rfl rfl (pv_move (v := .tuple _) rfl rfl) ?_
            refine xp_pure (i := 15) rfl (by kernel_rfl) (by kernel_rfl) rfl rfl rfl (pv_extract (v := .slice _ _ _) rfl rfl rfl) ?_
            refine xp_pure (i := 16) rfl (by kernel_rfl) (by kernel_rfl) rfl rfl rfl (pv_extract (v := .int _ _) rfl rfl rfl) ?_
            refine xp_pure (i := 17) rfl (by kernel_rfl) (by kernel_rfl) rfl rfl rfl (pv_assign (v := .slice _ _ _) rfl rfl) ?_
            refine xp_pure (i := 18) rfl (by kernel_rfl) (by kernel_rfl) rfl rfl rfl (pv_assign (v := .int _ _) rfl rfl) ?_
            refine xp_done (by kernel_rfl) ?_
            refine xthen_normal ?_
            refine xc_seq ?_
            refine xc_seq ?_
            refine xc_region ?_
            refine xl_pure rfl rfl rfl (pv_move (v := .int _ _) rfl rfl) ?_
            refine xl_ndec rfl rfl rfl (pv_neq rfl rfl rfl) (fun h8_1 => ?_) (fun h8_1 => ?_)
            · skip
              refine xl_nil ?_
              refine xthen_normal ?_
              refine xc_cond_f rfl ?_
              refine xc_skip ?_
              refine xthen_normal ?_
              refine xc_region ?_
              refine xl_pure rfl rfl rfl (pv_move (v := .slice _ _ _) rfl rfl) ?_
              refine xl_pure rfl rfl rfl (pv_assign (v := .slice _ _ _) rfl rfl) ?_
              refine xl_nil ?_
              refine xblock_normal ?_
              refine xthen_normal ?_
              refine xc_region ?_
              refine xl_pure rfl rfl rfl (pv_move (v := .int _ _) rfl rfl) ?_
              refine xl_pure rfl rfl rfl (pv_add rfl rfl rfl (fit_i64 (by omega))) ?_
              refine xl_pure rfl rfl rfl (pv_assign (v := .int _ _) rfl rfl) ?_
              refine xl_nil ?_
              refine xthen_normal ?_
              exact ⟨(i + 1, _, _, _), ⟨rfl, rfl, rfl, rfl, rfl, trivial⟩, ⟨by (try simp only); omega, hre.trans (run_next (d := false) (by omega) h8_1).1, hrx.trans (run_next (d := false) (by omega) h8_1).2, (goo_d (d := false) hgy rfl).1, Nat.le_trans (goo_d (d := false) hgy rfl).2 (by omega), hQ7_13, m0_0, hX⟩, by (try simp only); omega⟩
            · skip
              refine xl_nil ?_
              refine xthen_normal ?_
              refine xc_cond_t rfl ?_
              refine xc_seq ?_
              refine xc_region ?_
              refine xl_pure rfl rfl rfl (pv_move (v := .slice _ _ _) rfl rfl) ?_
              refine xl_pure rfl rfl rfl (pv_move (v := .int _ _) rfl rfl) ?_
              refine xl_pure rfl rfl rfl (pv_assign (v := .slice _ _ _) rfl rfl) ?_
              refine xl_pure rfl rfl rfl (pv_assign (v := .int _ _) rfl rfl) ?_
              refine xl_nil ?_
              refine xthen_normal ?_
              refine xc_ret ?_
              refine xthen_ret ?_
              refine xblock_ret ?_
              refine xthen_ret ?_
              refine xthen_ret ?_
              refine xblock_ret ?_
              refine xthen_ret ?_
              refine fin_ret (res2 (v := .slice _ _ _) (x := .int _ _) rfl rfl rfl) ?_
              obtain ⟨e1, e2⟩ := all_stop hok (hre.trans (run_stop (d := false) (by omega) h8_1)) h8_1
              exact ⟨a, c, by rw [e1, e2]; rfl, by rw [e2]; exact hx.ext hX, hX⟩
          · skip
            refine xl_nil ?_
            refine xthen_normal ?_
            refine xc_cond_f rfl ?_
            refine xc_exit ?_
            refine xthen_exit ?_
            refine xthen_exit ?_
            refine xblock_same ?_
            refine xthen_normal ?_
            refine xc_seq ?_
            refine xc_region ?_
            refine xl_pure rfl rfl rfl (pv_move (v := .slice _ _ _) rfl rfl) ?_
            refine xl_pure rfl rfl rfl (pv_assign (v := .slice _ _ _) rfl rfl) ?_
            refine xl_pure rfl rfl rfl (pv_assign (v := .int _ _) rfl rfl) ?_
            refine xl_nil ?_
            refine xthen_normal ?_
            refine xc_ret ?_
            refine fin_ret (res2 (v := .slice _ _ _) (x := .int _ _) rfl rfl rfl) ?_
            obtain rfl : i = s.length := by omega
            obtain ⟨e1, e2⟩ := all_done hok (hre.trans run_end.1) (hrx.trans run_end.2)
            exact ⟨a1, c1, by rw [e1, e2], by rw [e2]; exact hQ, hX⟩
      · exact absurd (by decide) h1_7
    · skip
      refine xl_ndec rfl rfl rfl (pv_neq rfl rfl rfl) (fun h1_7 => ?_) (fun h1_7 => ?_)
      · exact absurd h1_7 (by decide)
      · skip
        refine xl_pure rfl rfl rfl (pv_pick_f (v := .bool _) rfl rfl rfl) ?_
        refine xl_nil ?_
        refine xthen_normal ?_
        refine xc_cond_t rfl ?_
        refine xc_seq ?_
        refine xc_region ?_
        refine xl_pure rfl rfl rfl (pv_move (v := .slice _ _ _) rfl rfl) ?_
        refine xl_pure rfl rfl rfl (pv_assign (v := .slice _ _ _) rfl rfl) ?_
        refine xl_pure rfl rfl rfl (pv_assign (v := .int _ _) rfl rfl) ?_
        refine xl_nil ?_
        refine xthen_normal ?_
        refine xc_ret ?_
        refine xthen_ret ?_
        refine fin_ret (res2 (v := .slice _ _ _) (x := .int _ _) rfl rfl rfl) ?_
        obtain ⟨e1, e2⟩ := all_arg (d := false) (l := l) (k0 := k0) (k1 := k1) (k2 := k2) (s := s) (fun h => by first | exact hi1_2 h.1 | exact hg1_6 h.2)
        exact ⟨a, c, by rw [e1, e2], by rw [e2]; exact hx.ext hX, hX⟩
  · skip
    refine xl_pure rfl rfl rfl (pv_not rfl rfl) ?_
    refine xl_pure rfl rfl rfl (pv_move (v := .bool _) rfl rfl) ?_
    refine xl_skip rfl rfl rfl ?_
    refine xl_skip rfl rfl rfl ?_
    refine xl_skip rfl rfl rfl ?_
    refine xl_pure rfl rfl rfl (pv_pick_t (v := .bool _) rfl rfl rfl) ?_
    refine xl_nil ?_
    refine xthen_normal ?_
    refine xc_cond_t rfl ?_
    refine xc_seq ?_
    refine xc_region ?_
    refine xl_pure rfl rfl rfl (pv_move (v := .slice _ _ _) rfl rfl) ?_
    refine xl_pure rfl rfl rfl (pv_assign (v := .slice _ _ _) rfl rfl) ?_
    refine xl_pure rfl rfl rfl (pv_assign (v := .int _ _) rfl rfl) ?_
    refine xl_nil ?_
    refine xthen_normal ?_
    refine xc_ret ?_
    refine xthen_ret ?_
    refine fin_ret (res2 (v := .slice _ _ _) (x := .int _ _) rfl rfl rfl) ?_
    obtain ⟨e1, e2⟩ := all_arg (d := false) (l := l) (k0 := k0) (k1 := k1) (k2 := k2) (s := s) (fun h => by first | exact hi1_2 h.1 | exact hg1_6 h.2)
    exact ⟨a, c, by rw [e1, e2], by rw [e2]; exact hx.ext hX, hX⟩

theorem c24 {O : Outer} {H : Heap} {a : Option Addr} {c : Nat} {l : List (List Int)} (hx : RowsT H 74 5 a l) (hg : GooL l) (hl : l.length < 1000000) (k0 k1 k2 k3 : Int) :
    FnC Try.prog 24 #[.slice a l.length c, .agg #[.int .i64 k0, .int .i64 k1, .int .i64 k2, .int .i64 k3]] O H (fun v H' => ∃ a' c', v = .slice a' (ofS l k0 k1 k2).length c' ∧ Stks H' a' (ofS l k0 k1 k2) ∧ Ext H H') := by
  refine fn_enter (A := [.slice a l.length c, .agg #[.int .i64 k0, .int .i64 k1, .int .i64 k2, .int .i64 k3]]) Try.func24 rfl rfl ?_
  have hX := Ext.refl H
  refine xc_seq ?_
  refine xc_region ?_
  refine xl_heavy rfl rfl rfl (hv_box rfl rfl) ?_
  rintro v0_0 H0_0 ⟨b0_0, rfl, hN0_0⟩
  have gb0_0 := hX.fresh hN0_0
  have hX := hX.trans hN0_0.ext
  have m0_0 := hN0_0.blk
  refine xl_pure rfl rfl rfl (pv_assign (v := .slice _ _ _) rfl rfl) ?_
  refine xl_nil ?_
  refine xthen_normal ?_
  refine xc_seq ?_
  refine xc_region ?_
  refine xl_pure rfl rfl rfl (pv_assign (v := .slice _ _ _) rfl rfl) ?_
  refine xl_nil ?_
  refine xthen_normal ?_
  refine xc_seq ?_
  refine xc_seq ?_
  refine xc_region ?_
  refine xl_pure rfl rfl rfl (pv_assign (v := .int _ _) rfl rfl) ?_
  refine xl_nil ?_
  refine xthen_normal ?_
  refine xc_block ?_
  refine xc_loop (τ := Nat × Option Addr × Nat) (fun t => [(0, .slice a l.length c), (3, .pointer (some ⟨b0_0, 0, none⟩)), (5, .slice t.2.1 (ofI l k0 k1 k2 t.1).length t.2.2), (6, .int .i64 ((t.1 : Nat) + 1 : Int))]) (fun t H' => (t.1 ≤ 32) ∧ (Own H' H.size 44 2 (.slice t.2.1 (ofI l k0 k1 k2 t.1).length t.2.2) (ofI l k0 k1 k2 t.1).length (fl (ofI l k0 k1 k2 t.1))) ∧ (Blk H' b0_0 [.int .i64 k0, .int .i64 k1, .int .i64 k2, .int .i64 k3] 23) ∧ (Ext H H')) (fun t H' => 32 - t.1) (0, none, 0) ?_ ?_ ?_
  · exact ⟨rfl, rfl, slv (by rw [of_zero]; rfl), rfl, trivial⟩
  · skip
    exact ⟨Nat.zero_le _, by rw [of_zero]; simpa [fl] using Own.nil _ H.size 44 2, m0_0, hX⟩
  · intro σ
    clear hX m0_0
    rintro ⟨i, va, vc⟩ Hl3 ⟨hi, ho, m0_0, hX⟩
    replace hi : i ≤ 32 := hi
    replace ho : Own Hl3 H.size 44 2 (.slice va (ofI l k0 k1 k2 i).length vc) (ofI l k0 k1 k2 i).length (fl (ofI l k0 k1 k2 i)) := ho
    replace m0_0 : Blk Hl3 b0_0 [.int .i64 k0, .int .i64 k1, .int .i64 k2, .int .i64 k3] 23 := m0_0
    replace hX : Ext H Hl3 := hX
    have hol := of_len (l := l) (k0 := k0) (k1 := k1) (k2 := k2) i
    show XC _ _ _ (upds σ [(0, .slice a l.length c), (3, .pointer (some ⟨b0_0, 0, none⟩)), (5, .slice va (ofI l k0 k1 k2 i).length vc), (6, .int .i64 ((i : Nat) + 1 : Int))]) _
    refine xc_seq ?_
    refine xc_seq ?_
    refine xc_region ?_
    refine xl_pure rfl rfl rfl (pv_move (v := .int _ _) rfl rfl) ?_
    refine xl_dec rfl rfl rfl (pv_leq rfl rfl rfl) (fun h3_1 => ?_) (fun h3_1 => ?_)
    · skip
      refine xl_nil ?_
      refine xthen_normal ?_
      refine xc_cond_t rfl ?_
      refine xc_skip ?_
      refine xthen_normal ?_
      refine xc_seq ?_
      refine xc_block ?_
      refine xc_seq ?_
      refine xc_region ?_
      refine xl_pure rfl rfl rfl (pv_move (v := .slice _ _ _) rfl rfl) ?_
      refine xl_light rfl rfl rfl (lv_load (v := .agg _) rfl rfl (ld_blk_a m0_0 rfl rfl)) ?_
      refine xl_pure rfl rfl rfl (pv_move (v := .int _ _) rfl rfl) ?_
      refine xl_heavy rfl rfl rfl (hv_call (g := 45) rfl rfl (c45 k0 k1 k2 k3 ((i : Int) + 1)) rfl) ?_
      rintro v5_3 H5_3 ⟨rfl, hE5_3⟩
      have m0_0 := m0_0.ext hE5_3
      have ho := ho.ext hE5_3
      have hX := hX.trans hE5_3
      refine xl_heavy rfl rfl rfl (hv_call (g := 21) rfl rfl (c21 (hx.ext hX) hg.srt hl [k0, k1, k2, (i : Int) + 1] rfl) rfl) ?_
      rintro v5_4 H5_4 ⟨rfl, hE5_4⟩
      have m0_0 := m0_0.ext hE5_4
      have ho := ho.ext hE5_4
      have hX := hX.trans hE5_4
      refine xl_pure rfl rfl rfl (pv_assign (v := .int _ _) rfl rfl) ?_
      refine xl_nil ?_
      refine xthen_normal ?_
      refine xc_seq ?_
      refine xc_region ?_
      refine xl_pure rfl rfl rfl (pv_move (v := .int _ _) rfl rfl) ?_
      refine xl_dec rfl rfl rfl (pv_gtr rfl rfl rfl) (fun h6_1 => ?_) (fun h6_1 => ?_)
      · skip
        refine xl_nil ?_
        refine xthen_normal ?_
        refine xc_cond_t rfl ?_
        refine xc_region ?_
        refine xl_pure rfl rfl rfl (pv_move (v := .slice _ _ _) rfl rfl) ?_
        refine xl_pure rfl rfl rfl (pv_move (v := .int _ _) rfl rfl) ?_
        refine xl_pure rfl rfl rfl (pv_move (v := .int _ _) rfl rfl) ?_
        refine xl_pure rfl rfl rfl (pv_build_s (cs := [.int _ _, .int _ _]) rfl rfl rfl) ?_
        refine xl_heavy rfl rfl rfl (hv_buildSlice (cs := [.int _ _, .int _ _]) rfl rfl rfl rfl rfl) ?_
        rintro v7_4 H7_4 ⟨b7_4, rfl, hN7_4⟩
        have gb7_4 := hX.fresh hN7_4
        have nm0_0_7_4 := m0_0.apart hN7_4
        have pm7_4_ho := ho.apartN hN7_4
        have m0_0 := m0_0.ext hN7_4.ext
        have ho := ho.ext hN7_4.ext
        have hX := hX.trans hN7_4.ext
        have m7_4 := hN7_4.blk
        refine xl_heavy rfl rfl rfl (hv_append (size := 2) rfl rfl ho rfl m7_4.row rfl (by simp [Value.oneCell']) rfl (by decide) (by omega) (by omega) hX.size) ?_
        rintro v7_5 H7_5 ⟨hO7_5, hG7_5, -, hB7_5⟩
        have m0_0 := m0_0.offT ho hG7_5 rfl
        have hX := ho.grown hX hG7_5 (Nat.le_refl _)
        obtain ⟨a7_5, c7_5, rfl⟩ := hO7_5.val
        refine xl_pure rfl rfl rfl (pv_assign (v := .slice _ _ _) rfl rfl) ?_
        refine xl_nil ?_
        refine xblock_normal ?_
        refine xthen_normal ?_
        refine xc_region ?_
        refine xl_pure rfl rfl rfl (pv_move (v := .int _ _) rfl rfl) ?_
        refine xl_pure rfl rfl rfl (pv_add rfl rfl rfl (fit_i64 (by omega))) ?_
        refine xl_pure rfl rfl rfl (pv_assign (v := .int _ _) rfl rfl) ?_
        refine xl_nil ?_
        refine xthen_normal ?_
        first
          | exact ⟨(i + 1, _, _), ⟨rfl, rfl, slv (by rw [of_has hg h6_1]; simp), rfl, trivial⟩, ⟨by (try simp only); omega, by rw [of_has hg h6_1]; simpa [fl_snoc] using hO7_5, m0_0, hX⟩, by (try simp only); omega⟩
          | exact ⟨(i + 1, _, _), ⟨rfl, rfl, slv (by rw [of_not hg h6_1]), rfl, trivial⟩, ⟨by (try simp only); omega, by rw [of_not hg h6_1]; exact ho, m0_0, hX⟩, by (try simp only); omega⟩
      · skip
        refine xl_nil ?_
        refine xthen_normal ?_
        refine xc_cond_f rfl ?_
        refine xc_skip ?_
        refine xblock_normal ?_
        refine xthen_normal ?_
        refine xc_region ?_
        refine xl_pure rfl rfl rfl (pv_move (v := .int _ _) rfl rfl) ?_
        refine xl_pure rfl rfl rfl (pv_add rfl rfl rfl (fit_i64 (by omega))) ?_
        refine xl_pure rfl rfl rfl (pv_assign (v := .int _ _) rfl rfl) ?_
        refine xl_nil ?_
        refine xthen_normal ?_
        first
          | exact ⟨(i + 1, _, _), ⟨rfl, rfl, slv (by rw [of_has hg h6_1]; simp), rfl, trivial⟩, ⟨by (try simp only); omega, by rw [of_has hg h6_1]; simpa [fl_snoc] using hO7_5, m0_0, hX⟩, by (try simp only); omega⟩
          | exact ⟨(i + 1, _, _), ⟨rfl, rfl, slv (by rw [of_not hg h6_1]), rfl, trivial⟩, ⟨by (try simp only); omega, by rw [of_not hg h6_1]; exact ho, m0_0, hX⟩, by (try simp only); omega⟩
    · skip
      refine xl_nil ?_
      refine xthen_normal ?_
      refine xc_cond_f rfl ?_
      refine xc_exit ?_
      refine xthen_exit ?_
      refine xthen_exit ?_
      refine xblock_same ?_
      refine xthen_normal ?_
      refine xc_seq ?_
      refine xc_region ?_
      refine xl_pure rfl rfl rfl (pv_move (v := .slice _ _ _) rfl rfl) ?_
      refine xl_pure rfl rfl rfl (pv_assign (v := .slice _ _ _) rfl rfl) ?_
      refine xl_nil ?_
      refine xthen_normal ?_
      refine xc_ret ?_
      refine fin_ret (res1 (v := .slice _ _ _) rfl rfl) ?_
      obtain rfl : i = 32 := by omega
      rw [of_done hg.srt hg.wide] at ho
      exact ⟨va, vc, slv (by rw [of_done hg.srt hg.wide]), own_stks ho, hX⟩
end Go.XG
