/-
  Walks of the seat's functions over the logic XG: each function, what it computes. Printed by a program out of wip/walks.py.
-/
import Derived.Test.YtecjgodbgfollaaI
import Derived.Test.YtecjgodbgfollaaLn
import Derived.Test.YtecjgodbgfollaaNa
import Derived.Test.YtecjgodbgfollaaNb
import Derived.Test.YtecjgodbgfollaaNc
import Derived.Test.YtecjgodbgfollaaNd
import Derived.Test.YtecjgodbgfollaaNf
import Derived.Test.YtecjgodbgfollaaNg
import Derived.Test.YtecjgodbgfollaaE
import Derived.Test.YtecjgodbgfollaaWa
import Derived.Test.YtecjgodbgfollaaWb
import Derived.Test.YtecjgodbgfollaaWc
import Derived.Test.YtecjgodbgfollaaWd
import Derived.Test.YtecjgodbgfollaaWe
import Derived.Test.YtecjgodbgfollaaWf
namespace Go.XG
open Go.Proofs Go.Pen
set_option maxRecDepth 4000
set_option maxHeartbeats 4000000
theorem c12 {O : Outer} {H : Heap} (l : List (List Int)) (la : Option Addr) (lc : Nat) (hR : Rows H la 4 l) (hl : l.length ≤ 1048576) :
    FnC Try.prog 12 #[.slice la (List.length l) lc] O H (fun v H' => (v = .tuple #[.pointer none, .int .i64 1] ∧ loadL l = none ∨ ∃ p va vc mv x, v = .tuple #[.pointer (some ⟨p, 0, none⟩), .int .i64 0] ∧ loadL l = some x ∧ LogAt H' H.size p va vc mv x) ∧ Ext H H') := by
  refine fn_enter (A := [.slice la (List.length l) lc]) Try.func12 rfl rfl ?_
  have hX := Ext.refl H
  refine xc_seq ?_
  refine xc_region ?_
  refine xl_pure rfl rfl rfl (pv_assign (v := .pointer _) rfl rfl) ?_
  refine xl_pure rfl rfl rfl (pv_assign (v := .int _ _) rfl rfl) ?_
  refine xl_nil ?_
  refine xthen_normal ?_
  refine xc_seq ?_
  refine xc_region ?_
  refine xl_pure rfl rfl rfl (pv_build_s (cs := [.slice _ _ _, .map _]) rfl rfl rfl) ?_
  refine xl_heavy rfl rfl rfl (hv_box rfl rfl) ?_
  rintro v1_1 H1_1 ⟨b1_1, rfl, hN1_1⟩
  have gb1_1 := hX.fresh hN1_1
  have hX := hX.trans hN1_1.ext
  have m1_1 := hN1_1.blk
  refine xl_pure rfl rfl rfl (pv_assign (v := .pointer _) rfl rfl) ?_
  refine xl_nil ?_
  refine xthen_normal ?_
  refine xc_seq ?_
  refine xc_seq ?_
  refine xc_region ?_
  refine xl_pure rfl rfl rfl (pv_move (v := .slice _ _ _) rfl rfl) ?_
  refine xl_pure rfl rfl rfl (pv_len_l rfl rfl) ?_
  refine xl_pure rfl rfl rfl (pv_move (v := .int _ _) rfl rfl) ?_
  refine xl_nil ?_
  refine xthen_normal ?_
  refine xc_block ?_
  refine xc_loop (τ := List (List Int) × Option Addr × Nat × Option Nat × Nat) (fun t => [(4, .pointer (some ⟨b1_1, 0, none⟩)), (9, .slice la (List.length l) lc), (10, .int .i64 ((List.length l) : Nat)), (11, .int .i64 (t.2.2.2.2 : Nat))]) (fun t H' => (t.2.2.2.2 ≤ l.length) ∧ (loadL (l.take t.2.2.2.2) = some t.1) ∧ (LogAt H' H.size b1_1 t.2.1 t.2.2.1 t.2.2.2.1 t.1) ∧ (Ext H H')) (fun t H' => l.length - t.2.2.2.2) ([], none, 0, none, 0) ?_ ?_ ?_
  · exact ⟨rfl, rfl, rfl, rfl, trivial⟩
  · skip
    exact ⟨Nat.zero_le _, rfl, LogAt.new m1_1 gb1_1.le, hX⟩
  · intro σ
    clear hX m1_1
    rintro ⟨x, va, vc, mv, k⟩ Hl3 ⟨hk, hx, hg, hX⟩
    replace hk : k ≤ l.length := hk
    replace hx : loadL (l.take k) = some x := hx
    replace hg : LogAt Hl3 H.size b1_1 va vc mv x := hg
    replace hX : Ext H Hl3 := hX
    show XC _ _ _ (upds σ [(4, .pointer (some ⟨b1_1, 0, none⟩)), (9, .slice la (List.length l) lc), (10, .int .i64 ((List.length l) : Nat)), (11, .int .i64 (k : Nat))]) _
    refine xc_seq ?_
    refine xc_region ?_
    refine xl_dec rfl rfl rfl (pv_lss rfl rfl rfl) (fun h3_0 => ?_) (fun h3_0 => ?_)
    · skip
      refine xl_nil ?_
      refine xthen_normal ?_
      refine xc_seq ?_
      refine xc_cond_t rfl ?_
      refine xc_skip ?_
      refine xthen_normal ?_
      refine xc_seq ?_
      refine xc_block ?_
      refine xc_seq ?_
      obtain ⟨ba, off, hae, hsa⟩ := hR.2.resolve_left (by omega)
      subst hae
      refine xc_region ?_
      refine xl_pure rfl rfl rfl (pv_indexAddr_l rfl rfl rfl (by omega)) ?_
      refine xl_light rfl rfl rfl (lv_load (v := .agg _) rfl rfl (by exact ld_row' (i := k) (RowsAt.ext hsa hX) hR.1 (by omega))) ?_
      refine xl_heavy rfl rfl rfl (hv_alloc rfl rfl) ?_
      rintro v4_2 H4_2 ⟨b4_2, rfl, hN4_2⟩
      have gb4_2 := hX.fresh hN4_2
      have nhg_4_2 := hg.apart hN4_2
      have hg := hg.ext hN4_2.ext
      have hX := hX.trans hN4_2.ext
      have m4_2 := hN4_2.blk
      refine xl_store rfl rfl (hv_storeA (vs := ints (gr l k)) rfl rfl rfl (m4_2) (ints_len hR.1 (by omega)) (by rfl) (ints_one _)) ?_
      rintro v4_3 H4_3 ⟨hU4_3, hZ4_3⟩
      have hg := hg.off hU4_3.but (nhg_4_2)
      have hX := hX.upd hU4_3.but gb4_2
      have m4_2 := hU4_3.blk
      refine xl_nil ?_
      refine xthen_normal ?_
      refine xc_seq ?_
      refine xc_region ?_
      refine xl_pure rfl rfl rfl (pv_move (v := .pointer _) rfl rfl) ?_
      refine xl_light rfl rfl rfl (lv_load (v := .agg _) rfl rfl (ld_blk_a m4_2 rfl (ints_len hR.1 (by omega)))) ?_
      refine xl_heavy rfl rfl rfl (hv_call (g := 8) rfl rfl (c8r hg (gr l k) (hR.1.get (by omega))) rfl) ?_
      rintro v5_2 H5_2 ⟨e5_2, l5_2, va5_2, vc5_2, mv5_2, rfl, hd5_2, hg5_2, hK5_2, hW5_2⟩
      have hX := hX.keepB hK5_2 (fun i hi => (hg.ft i hi).1) (Nat.le_refl _)
      by_cases he5_2 : e5_2 = 0
      · skip
        subst he5_2
        refine xl_ndec rfl rfl rfl (pv_neq rfl rfl rfl) (fun h5_3 => ?_) (fun h5_3 => ?_)
        · skip
          refine xl_nil ?_
          refine xthen_normal ?_
          refine xc_cond_f rfl ?_
          refine xc_skip ?_
          refine xblock_normal ?_
          refine xthen_normal ?_
          refine xc_region ?_
          refine xl_pure rfl rfl rfl (pv_add rfl rfl rfl (fit_i64 (by omega))) ?_
          refine xl_pure rfl rfl rfl (pv_move (v := .int _ _) rfl rfl) ?_
          refine xl_nil ?_
          refine xthen_normal ?_
          exact ⟨(l5_2, _, _, _, k + 1), ⟨rfl, rfl, rfl, rfl, trivial⟩, ⟨by (try simp only); omega, load_ok (by omega) hx hd5_2 rfl, hg5_2, hX⟩, by (try simp only); omega⟩
        · exact absurd (by decide) h5_3
      · skip
        refine xl_ndec rfl rfl rfl (pv_neq rfl rfl rfl) (fun h5_3 => ?_) (fun h5_3 => ?_)
        · exact absurd h5_3 he5_2
        · skip
          refine xl_nil ?_
          refine xthen_normal ?_
          refine xc_cond_t rfl ?_
          refine xc_seq ?_
          refine xc_region ?_
          refine xl_pure rfl rfl rfl (pv_assign (v := .pointer _) rfl rfl) ?_
          refine xl_pure rfl rfl rfl (pv_assign (v := .int _ _) rfl rfl) ?_
          refine xl_nil ?_
          refine xthen_normal ?_
          refine xc_ret ?_
          refine xblock_ret ?_
          refine xthen_ret ?_
          refine xthen_ret ?_
          refine xblock_ret ?_
          refine xthen_ret ?_
          refine fin_ret (res2 (v := .pointer _) (x := .int _ _) rfl rfl rfl) ?_
          exact ⟨.inl ⟨rfl, load_bad (by omega) hx hd5_2 he5_2⟩, hX⟩
    · skip
      refine xl_nil ?_
      refine xthen_normal ?_
      refine xc_seq ?_
      refine xc_cond_f rfl ?_
      refine xc_exit ?_
      refine xthen_exit ?_
      refine xthen_exit ?_
      refine xblock_same ?_
      refine xthen_normal ?_
      refine xc_seq ?_
      refine xc_region ?_
      refine xl_pure rfl rfl rfl (pv_move (v := .pointer _) rfl rfl) ?_
      refine xl_pure rfl rfl rfl (pv_assign (v := .pointer _) rfl rfl) ?_
      refine xl_pure rfl rfl rfl (pv_assign (v := .int _ _) rfl rfl) ?_
      refine xl_nil ?_
      refine xthen_normal ?_
      refine xc_ret ?_
      refine fin_ret (res2 (v := .pointer _) (x := .int _ _) rfl rfl rfl) ?_
      exact ⟨.inr ⟨_, _, _, _, x, rfl, by rw [← List.take_of_length_le (show l.length ≤ k by omega)]; exact hx, hg⟩, hX⟩

theorem c13 {O : Outer} {H : Heap} (l : List (List Int)) (la : Option Addr) (lc : Nat) (hR : Rows H la 4 l) (hl : l.length ≤ 1048576) :
    FnC Try.prog 13 #[.slice la (List.length l) lc] O H (fun v H' => ∃ e x a' c', v = .tuple #[.slice a' (List.length x) c', .int .i64 e] ∧ (e = 0 ∧ loadL l = some x ∨ e = 1 ∧ loadL l = none) ∧ Rows H' a' 4 x ∧ x.length ≤ 128 ∧ (a' = none → c' = 0) ∧ NewA H a' ∧ Ext H H') := by
  refine fn_enter (A := [.slice la (List.length l) lc]) Try.func13 rfl rfl ?_
  have hX := Ext.refl H
  refine xc_seq ?_
  refine xc_region ?_
  refine xl_pure rfl rfl rfl (pv_assign (v := .slice _ _ _) rfl rfl) ?_
  refine xl_pure rfl rfl rfl (pv_assign (v := .int _ _) rfl rfl) ?_
  refine xl_nil ?_
  refine xthen_normal ?_
  refine xc_seq ?_
  refine xc_region ?_
  refine xl_pure rfl rfl rfl (pv_assign (v := .slice _ _ _) rfl rfl) ?_
  refine xl_nil ?_
  refine xthen_normal ?_
  refine xc_seq ?_
  refine xc_seq ?_
  refine xc_region ?_
  refine xl_pure rfl rfl rfl (pv_assign (v := .int _ _) rfl rfl) ?_
  refine xl_nil ?_
  refine xthen_normal ?_
  refine xc_block ?_
  refine xc_loop (τ := List (List Int) × Option Addr × Nat × Nat) (fun t => [(0, .slice la (List.length l) lc), (4, .slice t.2.1 (List.length t.1) t.2.2.1), (5, .int .i64 (t.2.2.2 : Nat))]) (fun t H' => (t.2.2.2 ≤ l.length) ∧ (loadL (l.take t.2.2.2) = some t.1) ∧ (Rows H' t.2.1 4 t.1) ∧ (t.1.length ≤ 128) ∧ (t.2.1 = none → t.2.2.1 = 0) ∧ (NewA H t.2.1) ∧ (Ext H H')) (fun t H' => l.length - t.2.2.2) ([], none, 0, 0) ?_ ?_ ?_
  · exact ⟨rfl, rfl, rfl, trivial⟩
  · skip
    exact ⟨Nat.zero_le _, rfl, rows_nil, Nat.zero_le _, fun _ => rfl, newA_none, hX⟩
  · intro σ
    clear hX
    rintro ⟨x, xa, xc, k⟩ Hl3 ⟨hk, hx, hxr, hxl, hxz, hxn, hX⟩
    replace hk : k ≤ l.length := hk
    replace hx : loadL (l.take k) = some x := hx
    replace hxr : Rows Hl3 xa 4 x := hxr
    replace hxl : x.length ≤ 128 := hxl
    replace hxz : xa = none → xc = 0 := hxz
    replace hxn : NewA H xa := hxn
    replace hX : Ext H Hl3 := hX
    show XC _ _ _ (upds σ [(0, .slice la (List.length l) lc), (4, .slice xa (List.length x) xc), (5, .int .i64 (k : Nat))]) _
    refine xc_seq ?_
    refine xc_seq ?_
    refine xc_region ?_
    refine xl_pure rfl rfl rfl (pv_move (v := .int _ _) rfl rfl) ?_
    refine xl_pure rfl rfl rfl (pv_move (v := .slice _ _ _) rfl rfl) ?_
    refine xl_pure rfl rfl rfl (pv_len_l rfl rfl) ?_
    refine xl_dec rfl rfl rfl (pv_lss rfl rfl rfl) (fun h3_3 => ?_) (fun h3_3 => ?_)
    · skip
      refine xl_nil ?_
      refine xthen_normal ?_
      refine xc_cond_t rfl ?_
      refine xc_skip ?_
      refine xthen_normal ?_
      refine xc_seq ?_
      refine xc_block ?_
      refine xc_seq ?_
      obtain ⟨ba, off, hae, hsa⟩ := hR.2.resolve_left (by omega)
      subst hae
      have hXs := hX
      refine xc_region ?_
      refine xl_pure rfl rfl rfl (pv_move (v := .slice _ _ _) rfl rfl) ?_
      refine xl_pure rfl rfl rfl (pv_move (v := .slice _ _ _) rfl rfl) ?_
      refine xl_pure rfl rfl rfl (pv_move (v := .int _ _) rfl rfl) ?_
      refine xl_pure rfl rfl rfl (pv_indexAddr_l rfl rfl rfl (by omega)) ?_
      refine xl_light rfl rfl rfl (lv_load (v := .agg _) rfl rfl (by exact ld_row' (i := k) (RowsAt.ext hsa hX) hR.1 (by omega))) ?_
      refine xl_heavy rfl rfl rfl (hv_call (g := 14) rfl rfl (c14r x xa xc hxr hxl hxz (gr l k) (hR.1.get (by omega))) rfl) ?_
      rintro v5_5 H5_5 ⟨e5_5, x5_5, a5_5, c5_5, rfl, hd5_5, hr5_5, hl5_5, hz5_5, hn5_5, hE5_5⟩
      have hxr := hxr.ext hE5_5
      have hX := hX.trans hE5_5
      by_cases he5_5 : e5_5 = 0
      · skip
        subst he5_5
        refine xl_pure rfl rfl rfl (pv_move (v := .tuple _) rfl rfl) ?_
        refine xl_pure rfl rfl rfl (pv_extract (v := .slice _ _ _) rfl rfl rfl) ?_
        refine xl_pure rfl rfl rfl (pv_extract (v := .int _ _) rfl rfl rfl) ?_
        refine xl_pure rfl rfl rfl (pv_assign (v := .slice _ _ _) rfl rfl) ?_
        refine xl_pure rfl rfl rfl (pv_assign (v := .int _ _) rfl rfl) ?_
        refine xl_nil ?_
        refine xthen_normal ?_
        refine xc_seq ?_
        refine xc_seq ?_
        refine xc_region ?_
        refine xl_pure rfl rfl rfl (pv_move (v := .int _ _) rfl rfl) ?_
        refine xl_ndec rfl rfl rfl (pv_neq rfl rfl rfl) (fun h6_1 => ?_) (fun h6_1 => ?_)
        · skip
          refine xl_nil ?_
          refine xthen_normal ?_
          refine xc_cond_f rfl ?_
          refine xc_skip ?_
          refine xthen_normal ?_
          refine xc_region ?_
          refine xl_pure rfl rfl rfl (pv_move (v := .slice _ _ _) rfl rfl) ?_
          refine xl_pure rfl rfl rfl (pv_assign (v := .slice _ _ _) rfl rfl) ?_
          refine xl_nil ?_
          refine xblock_normal ?_
          refine xthen_normal ?_
          refine xc_region ?_
          refine xl_pure rfl rfl rfl (pv_move (v := .int _ _) rfl rfl) ?_
          refine xl_pure rfl rfl rfl (pv_add rfl rfl rfl (fit_i64 (by omega))) ?_
          refine xl_pure rfl rfl rfl (pv_assign (v := .int _ _) rfl rfl) ?_
          refine xl_nil ?_
          refine xthen_normal ?_
          exact ⟨(x5_5, _, _, k + 1), ⟨rfl, rfl, rfl, trivial⟩, ⟨by (try simp only); omega, load_ok (by omega) hx hd5_5 rfl, hr5_5, hl5_5, hz5_5, by rcases hn5_5 with ⟨h1, _⟩ | h1; rw [h1]; exact hxn; exact h1.le hXs.size, hX⟩, by (try simp only); omega⟩
        · exact absurd (by decide) h6_1
      · skip
        refine xl_pure rfl rfl rfl (pv_move (v := .tuple _) rfl rfl) ?_
        refine xl_pure rfl rfl rfl (pv_extract (v := .slice _ _ _) rfl rfl rfl) ?_
        refine xl_pure rfl rfl rfl (pv_extract (v := .int _ _) rfl rfl rfl) ?_
        refine xl_pure rfl rfl rfl (pv_assign (v := .slice _ _ _) rfl rfl) ?_
        refine xl_pure rfl rfl rfl (pv_assign (v := .int _ _) rfl rfl) ?_
        refine xl_nil ?_
        refine xthen_normal ?_
        refine xc_seq ?_
        refine xc_seq ?_
        refine xc_region ?_
        refine xl_pure rfl rfl rfl (pv_move (v := .int _ _) rfl rfl) ?_
        refine xl_ndec rfl rfl rfl (pv_neq rfl rfl rfl) (fun h6_1 => ?_) (fun h6_1 => ?_)
        · exact absurd h6_1 he5_5
        · skip
          refine xl_nil ?_
          refine xthen_normal ?_
          refine xc_cond_t rfl ?_
          refine xc_seq ?_
          refine xc_region ?_
          refine xl_pure rfl rfl rfl (pv_assign (v := .slice _ _ _) rfl rfl) ?_
          refine xl_pure rfl rfl rfl (pv_assign (v := .int _ _) rfl rfl) ?_
          refine xl_nil ?_
          refine xthen_normal ?_
          refine xc_ret ?_
          refine xthen_ret ?_
          refine xblock_ret ?_
          refine xthen_ret ?_
          refine xthen_ret ?_
          refine xblock_ret ?_
          refine xthen_ret ?_
          refine fin_ret (res2 (v := .slice _ _ _) (x := .int _ _) rfl rfl rfl) ?_
          exact ⟨1, [], none, 0, rfl, .inr ⟨rfl, load_bad (by omega) hx hd5_5 he5_5⟩, rows_nil, Nat.zero_le _, fun _ => rfl, newA_none, hX⟩
    · skip
      refine xl_nil ?_
      refine xthen_normal ?_
      refine xc_cond_f rfl ?_
      refine xc_exit ?_
      refine xthen_exit ?_
      refine xthen_exit ?_
      refine xblock_same ?_
      refine xthen_normal ?_
      refine xc_seq ?_
      refine xc_region ?_
      refine xl_pure rfl rfl rfl (pv_move (v := .slice _ _ _) rfl rfl) ?_
      refine xl_pure rfl rfl rfl (pv_assign (v := .slice _ _ _) rfl rfl) ?_
      refine xl_pure rfl rfl rfl (pv_assign (v := .int _ _) rfl rfl) ?_
      refine xl_nil ?_
      refine xthen_normal ?_
      refine xc_ret ?_
      refine fin_ret (res2 (v := .slice _ _ _) (x := .int _ _) rfl rfl rfl) ?_
      exact ⟨0, x, xa, xc, rfl, .inl ⟨rfl, by rw [← List.take_of_length_le (show l.length ≤ k by omega)]; exact hx⟩, hxr, hxl, hxz, hxn, hX⟩
end Go.XG
