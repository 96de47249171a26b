/-
  Walks of the seat's functions over the logic XG: each function, what it computes. Printed by a program out of wip/walks.py.
-/
import Derived.Test.YtmmogpcmpbkajaaI
import Derived.Test.YtmmogpcmpbkajaaP
import Derived.Test.YtmmogpcmpbkajaaL
import Derived.Test.YtmmogpcmpbkajaaWa
import Derived.Test.YtmmogpcmpbkajaaWb
import Derived.Test.YtmmogpcmpbkajaaWc
import Derived.Test.YtmmogpcmpbkajaaWd
import Derived.Test.YtmmogpcmpbkajaaWe
import Derived.Test.YtmmogpcmpbkajaaWf
import Derived.Test.YtmmogpcmpbkajaaWg
import Derived.Test.YtmmogpcmpbkajaaWh
import Derived.Test.YtmmogpcmpbkajaaLn
import Derived.Test.YtmmogpcmpbkajaaNa
import Derived.Test.YtmmogpcmpbkajaaNb
import Derived.Test.YtmmogpcmpbkajaaNc
import Derived.Test.YtmmogpcmpbkajaaNd
import Derived.Test.YtmmogpcmpbkajaaNf
import Derived.Test.YtmmogpcmpbkajaaNg
import Derived.Test.YtmmogpcmpbkajaaXk
import Derived.Test.YtmmogpcmpbkajaaB6
namespace Go.XG
open Go.Proofs Go.Pen
set_option maxRecDepth 4000
set_option maxHeartbeats 4000000
theorem c34 {O : Outer} {H : Heap} {bt bi : Nat} (s : List UInt8) (ns : List Int) (c : Nat) (mi : Blk H bi (ints ns) 3) (mt : Blk H bt [.string (bs s)] 9) (nmi_mt : Apart bi bt) (hns : ∀ x ∈ ns, InU x) (hl : s.length + 10 * ns.length < 1000000) :
    FnC Try.prog 34 #[.slice (some ⟨bi, 0, none⟩) (List.length ns) c, .pointer (some ⟨bt, 0, none⟩)] O H (fun _ H' => Upd H H' bt [.string (bs (s ++ encK ns))] 9) := by
  refine fn_enter (A := [.slice (some ⟨bi, 0, none⟩) (List.length ns) c, .pointer (some ⟨bt, 0, none⟩)]) Try.func34 rfl rfl ?_
  have hX := But.refl bt H
  refine xc_seq ?_
  refine xc_region ?_
  refine xl_pure rfl rfl rfl (pv_move (v := .slice _ _ _) rfl rfl) ?_
  refine xl_pure rfl rfl rfl (pv_len_l rfl rfl) ?_
  refine xl_pure rfl rfl rfl (pv_move (v := .int _ _) rfl rfl) ?_
  refine xl_nil ?_
  refine xthen_normal ?_
  refine xc_block ?_
  refine xc_loop (τ := Nat) (fun t => [(1, .pointer (some ⟨bt, 0, none⟩)), (5, .slice (some ⟨bi, 0, none⟩) (List.length ns) c), (6, .int .i64 ((List.length ns) : Nat)), (7, .int .i64 (t : Nat))]) (fun t H' => (t ≤ ns.length) ∧ (Blk H' bi (ints ns) 3) ∧ (Blk H' bt [.string (bs (s ++ encK (ns.take t)))] 9) ∧ (But bt H H')) (fun t H' => ns.length - t) 0 ?_ ?_ ?_
  · exact ⟨rfl, rfl, rfl, rfl, trivial⟩
  · skip
    exact ⟨Nat.zero_le _, mi, by simpa [encK] using mt, hX⟩
  · intro σ
    clear hX mi mt
    rintro k Hl1 ⟨hk, mi, mt, hX⟩
    replace hk : k ≤ ns.length := hk
    replace mi : Blk Hl1 bi (ints ns) 3 := mi
    replace mt : Blk Hl1 bt [.string (bs (s ++ encK (ns.take k)))] 9 := mt
    replace hX : But bt H Hl1 := hX
    show XC _ _ _ (upds σ [(1, .pointer (some ⟨bt, 0, none⟩)), (5, .slice (some ⟨bi, 0, none⟩) (List.length ns) c), (6, .int .i64 ((List.length ns) : Nat)), (7, .int .i64 (k : Nat))]) _
    refine xc_seq ?_
    refine xc_region ?_
    refine xl_dec rfl rfl rfl (pv_lss rfl rfl rfl) (fun h1_0 => ?_) (fun h1_0 => ?_)
    · skip
      refine xl_nil ?_
      refine xthen_normal ?_
      refine xc_seq ?_
      refine xc_cond_t rfl ?_
      refine xc_skip ?_
      refine xthen_normal ?_
      refine xc_seq ?_
      refine xc_block ?_
      refine xc_seq ?_
      have hik : ns.getD k 0 ∈ ns := by rw [List.getD_eq_getElem?_getD, List.getElem?_eq_getElem (by omega)]; exact List.getElem_mem _
      refine xc_region ?_
      refine xl_pure rfl rfl rfl (pv_indexAddr_l rfl rfl rfl (by omega)) ?_
      refine xl_light rfl rfl rfl (lv_load (v := .int _ _) rfl rfl (by exact blk_int mi (by omega))) ?_
      refine xl_pure rfl rfl rfl (pv_assign (v := .int _ _) rfl rfl) ?_
      refine xl_nil ?_
      refine xthen_normal ?_
      refine xp_start rfl (by repeat (first | with_reducible exact np_fin | with_reducible refine np_then ?_ | with_reducible refine np_block ?_)) (by kernel_rfl) ?_
      refine xp_light (i := 0) rfl (by kernel_rfl) (by kernel_rfl) rfl rfl rfl (lv_load (v := .string (bs _)) rfl rfl (ld_blk mt rfl)) ?_
      refine xp_pure (i := 1) rfl (by kernel_rfl) (by kernel_rfl) rfl rfl rfl (pv_move (v := .int _ _) rfl rfl) ?_
      refine xp_heavy (i := 2) (by kernel_rfl) ?_
      refine xph_val rfl rfl rfl rfl (hv_call (g := 35) rfl rfl (p8 _ (hns _ hik).2) rfl) (pk (by kernel_rfl) pn) ?_
      rintro v3_2 H3_2 ⟨rfl, hE3_2⟩
      have mi := mi.ext hE3_2
      have mt := mt.ext hE3_2
      have hX := hX.transE hE3_2
      refine ⟨(okc (lv_load (v := .string (bs _)) rfl rfl (ld_blk mt rfl)) okn), ?_⟩
      refine xp_pure (i := 3) rfl (by kernel_rfl) (by kernel_rfl) rfl rfl rfl (pv_add_s rfl rfl rfl (by have h1 := encK_len (ns.take k); have h2 := uintB_le (ns.getD k 0); simp only [List.length_append, List.length_take] at *; omega)) ?_
      refine xp_heavy (i := 4) (by kernel_rfl) ?_
      refine xph_store rfl rfl rfl (hv_store (vs := [.string (bs _)]) rfl rfl rfl (mt) rfl (Nat.le_of_ble_eq_true rfl) rfl) (pd (by kernel_rfl) pn) ?_
      rintro v3_4 H3_4 ⟨hU3_4, hZ3_4⟩
      have mi := mi.off hU3_4.but (nmi_mt)
      have hX := hX.trans hU3_4.but
      have mt := hU3_4.blk
      refine ⟨okn, ?_⟩
      refine xp_done (by kernel_rfl) ?_
      refine xblock_normal ?_
      refine xthen_normal ?_
      refine xc_region ?_
      refine xl_pure rfl rfl rfl (pv_add rfl rfl rfl (fit_i64 (by omega))) ?_
      refine xl_pure rfl rfl rfl (pv_move (v := .int _ _) rfl rfl) ?_
      refine xl_nil ?_
      refine xthen_normal ?_
      exact ⟨k + 1, ⟨rfl, rfl, rfl, rfl, trivial⟩, ⟨by (try simp only); omega, mi, by rw [encK_take (by omega), ← List.append_assoc]; exact mt, hX⟩, by (try simp only); omega⟩
    · skip
      refine xl_nil ?_
      refine xthen_normal ?_
      refine xc_seq ?_
      refine xc_cond_f rfl ?_
      refine xc_exit ?_
      refine xthen_exit ?_
      refine xthen_exit ?_
      refine xblock_same ?_
      refine fin_normal (res0 rfl) ?_
      exact ⟨hX, by rw [show ns.take k = ns from List.take_of_length_le (by omega)] at mt; exact mt⟩

theorem c36 {O : Outer} {H : Heap} {bi : Nat} (ns : List Int) (c : Nat) (mi : Blk H bi (ints ns) 3) (hns : ∀ x ∈ ns, InU x) (hl : ns.length < 1000) :
    FnC Try.prog 36 #[.slice (some ⟨bi, 0, none⟩) (List.length ns) c] O H (fun v H' => v = .string (bs (encK ns)) ∧ Ext H H') := by
  refine fn_enter (A := [.slice (some ⟨bi, 0, none⟩) (List.length ns) c]) Try.func36 rfl rfl ?_
  have hX := Ext.refl H
  refine xc_seq ?_
  refine xc_region ?_
  refine xl_pure rfl rfl rfl (pv_assign (v := .string (bs _)) rfl rfl) ?_
  refine xl_nil ?_
  refine xthen_normal ?_
  refine xc_seq ?_
  refine xc_region ?_
  refine xl_pure rfl rfl rfl (pv_assign (v := .string (bs _)) rfl rfl) ?_
  refine xl_nil ?_
  refine xthen_normal ?_
  refine xc_seq ?_
  refine xc_seq ?_
  refine xc_region ?_
  refine xl_pure rfl rfl rfl (pv_assign (v := .int _ _) rfl rfl) ?_
  refine xl_nil ?_
  refine xthen_normal ?_
  refine xc_block ?_
  refine xc_loop (τ := Nat) (fun t => [(0, .slice (some ⟨bi, 0, none⟩) (List.length ns) c), (3, .string (bs (encK (ns.take t)))), (4, .int .i64 (t : Nat))]) (fun t H' => (t ≤ ns.length) ∧ (Blk H' bi (ints ns) 3) ∧ (Ext H H')) (fun t H' => ns.length - t) 0 ?_ ?_ ?_
  · exact ⟨rfl, rfl, rfl, trivial⟩
  · skip
    exact ⟨Nat.zero_le _, mi, hX⟩
  · intro σ
    clear hX mi
    rintro k Hl3 ⟨hk, mi, hX⟩
    replace hk : k ≤ ns.length := hk
    replace mi : Blk Hl3 bi (ints ns) 3 := mi
    replace hX : Ext H Hl3 := hX
    show XC _ _ _ (upds σ [(0, .slice (some ⟨bi, 0, none⟩) (List.length ns) c), (3, .string (bs (encK (ns.take k)))), (4, .int .i64 (k : Nat))]) _
    refine xc_seq ?_
    refine xc_seq ?_
    refine xc_region ?_
    refine xl_pure rfl rfl rfl (pv_move (v := .int _ _) rfl rfl) ?_
    refine xl_pure rfl rfl rfl (pv_move (v := .slice _ _ _) rfl rfl) ?_
    refine xl_pure rfl rfl rfl (pv_len_l rfl rfl) ?_
    refine xl_dec rfl rfl rfl (pv_lss rfl rfl rfl) (fun h3_3 => ?_) (fun h3_3 => ?_)
    · skip
      refine xl_nil ?_
      refine xthen_normal ?_
      refine xc_cond_t rfl ?_
      refine xc_skip ?_
      refine xthen_normal ?_
      refine xc_seq ?_
      refine xc_block ?_
      have hik : ns.getD k 0 ∈ ns := by rw [List.getD_eq_getElem?_getD, List.getElem?_eq_getElem (by omega)]; exact List.getElem_mem _
      refine xc_region ?_
      refine xl_pure rfl rfl rfl (pv_move (v := .string (bs _)) rfl rfl) ?_
      refine xl_pure rfl rfl rfl (pv_move (v := .slice _ _ _) rfl rfl) ?_
      refine xl_pure rfl rfl rfl (pv_move (v := .int _ _) rfl rfl) ?_
      refine xl_pure rfl rfl rfl (pv_indexAddr_l rfl rfl rfl (by omega)) ?_
      refine xl_light rfl rfl rfl (lv_load (v := .int _ _) rfl rfl (by exact blk_int mi (by omega))) ?_
      refine xl_heavy rfl rfl rfl (hv_call (g := 53) rfl rfl (p9 _ (hns _ hik).2) rfl) ?_
      rintro v5_5 H5_5 ⟨rfl, hE5_5⟩
      have mi := mi.ext hE5_5
      have hX := hX.trans hE5_5
      refine xl_pure rfl rfl rfl (pv_add_s rfl rfl rfl (by have h1 := encK_len (ns.take k); have h2 := uintB_le (ns.getD k 0); simp only [List.length_take] at *; omega)) ?_
      refine xl_pure rfl rfl rfl (pv_assign (v := .string (bs _)) rfl rfl) ?_
      refine xl_nil ?_
      refine xblock_normal ?_
      refine xthen_normal ?_
      refine xc_region ?_
      refine xl_pure rfl rfl rfl (pv_move (v := .int _ _) rfl rfl) ?_
      refine xl_pure rfl rfl rfl (pv_add rfl rfl rfl (fit_i64 (by omega))) ?_
      refine xl_pure rfl rfl rfl (pv_assign (v := .int _ _) rfl rfl) ?_
      refine xl_nil ?_
      refine xthen_normal ?_
      exact ⟨k + 1, ⟨rfl, sv (by rw [encK_take (by omega)]), rfl, trivial⟩, ⟨by (try simp only); omega, mi, hX⟩, by (try simp only); omega⟩
    · skip
      refine xl_nil ?_
      refine xthen_normal ?_
      refine xc_cond_f rfl ?_
      refine xc_exit ?_
      refine xthen_exit ?_
      refine xthen_exit ?_
      refine xblock_same ?_
      refine xthen_normal ?_
      refine xc_seq ?_
      refine xc_region ?_
      refine xl_pure rfl rfl rfl (pv_move (v := .string (bs _)) rfl rfl) ?_
      refine xl_pure rfl rfl rfl (pv_assign (v := .string (bs _)) rfl rfl) ?_
      refine xl_nil ?_
      refine xthen_normal ?_
      refine xc_ret ?_
      refine fin_ret (res1 (v := .string (bs _)) rfl rfl) ?_
      exact ⟨sv (by rw [show ns.take k = ns from List.take_of_length_le (by omega)]), hX⟩

theorem c37 {O : Outer} {H : Heap} (l : List Stack) (a : Option Addr) (c : Nat) (hs : Stks H a l) (hin : ∀ x ∈ l, InU x.1 ∧ InU x.2) (hl : l.length < 1000) :
    FnC Try.prog 37 #[.slice a (List.length l) c] O H (fun v H' => v = .string (bs (encL l)) ∧ Ext H H') := by
  refine fn_enter (A := [.slice a (List.length l) c]) Try.func37 rfl rfl ?_
  have hX := Ext.refl H
  refine xc_seq ?_
  refine xc_region ?_
  refine xl_pure rfl rfl rfl (pv_assign (v := .string (bs _)) rfl rfl) ?_
  refine xl_nil ?_
  refine xthen_normal ?_
  refine xc_seq ?_
  refine xc_region ?_
  refine xl_pure rfl rfl rfl (pv_move (v := .slice _ _ _) rfl rfl) ?_
  refine xl_pure rfl rfl rfl (pv_len_l rfl rfl) ?_
  refine xl_heavy rfl rfl rfl (hv_call (g := 53) rfl rfl (p9 _ (by omega)) rfl) ?_
  rintro v1_2 H1_2 ⟨rfl, hE1_2⟩
  have hX := hX.trans hE1_2
  refine xl_pure rfl rfl rfl (pv_assign (v := .string (bs _)) rfl rfl) ?_
  refine xl_nil ?_
  refine xthen_normal ?_
  refine xc_seq ?_
  refine xc_seq ?_
  refine xc_region ?_
  refine xl_pure rfl rfl rfl (pv_assign (v := .int _ _) rfl rfl) ?_
  refine xl_nil ?_
  refine xthen_normal ?_
  refine xc_block ?_
  refine xc_loop (τ := Nat) (fun t => [(0, .slice a (List.length l) c), (3, .string (bs (uintB (List.length l) ++ encK (flat (l.take t))))), (4, .int .i64 (t : Nat))]) (fun t H' => (t ≤ l.length) ∧ (Ext H H')) (fun t H' => l.length - t) 0 ?_ ?_ ?_
  · exact ⟨rfl, sv (by simp [flat, encK]), rfl, trivial⟩
  · skip
    exact ⟨Nat.zero_le _, hX⟩
  · intro σ
    clear hX
    rintro k Hl3 ⟨hk, hX⟩
    replace hk : k ≤ l.length := hk
    replace hX : Ext H Hl3 := hX
    show XC _ _ _ (upds σ [(0, .slice a (List.length l) c), (3, .string (bs (uintB (List.length l) ++ encK (flat (l.take k))))), (4, .int .i64 (k : Nat))]) _
    refine xc_seq ?_
    refine xc_seq ?_
    refine xc_region ?_
    refine xl_pure rfl rfl rfl (pv_move (v := .int _ _) rfl rfl) ?_
    refine xl_pure rfl rfl rfl (pv_move (v := .slice _ _ _) rfl rfl) ?_
    refine xl_pure rfl rfl rfl (pv_len_l rfl rfl) ?_
    refine xl_dec rfl rfl rfl (pv_lss rfl rfl rfl) (fun h3_3 => ?_) (fun h3_3 => ?_)
    · skip
      refine xl_nil ?_
      refine xthen_normal ?_
      refine xc_cond_t rfl ?_
      refine xc_skip ?_
      refine xthen_normal ?_
      refine xc_seq ?_
      refine xc_block ?_
      obtain ⟨ba, off, hae, hsa⟩ := hs.resolve_left (by omega)
      have hil : l.getD k (0, 0) ∈ l := by rw [List.getD_eq_getElem?_getD, List.getElem?_eq_getElem (by omega)]; exact List.getElem_mem _
      have hpr : ∀ x ∈ [gx l k, gq l k], InU x := by
        intro x hx; simp only [List.mem_cons, List.not_mem_nil, or_false] at hx; rcases hx with rfl | rfl; exact (hin _ hil).1; exact (hin _ hil).2
      refine xp_start rfl (by repeat (first | with_reducible exact np_fin | with_reducible refine np_then ?_ | with_reducible refine np_block ?_)) (by kernel_rfl) ?_
      refine xp_pure (i := 0) rfl (by kernel_rfl) (by kernel_rfl) rfl rfl rfl (pv_move (v := .string (bs _)) rfl rfl) ?_
      refine xp_pure (i := 1) rfl (by kernel_rfl) (by kernel_rfl) rfl rfl rfl (pv_move (v := .slice _ _ _) rfl rfl) ?_
      refine xp_pure (i := 2) rfl (by kernel_rfl) (by kernel_rfl) rfl rfl rfl (pv_move (v := .int _ _) rfl rfl) ?_
      refine xp_pure (i := 3) rfl (by kernel_rfl) (by kernel_rfl) rfl rfl rfl (pv_indexAddr_l rfl (sl_eq hae) rfl (by omega)) ?_
      refine xp_pure (i := 4) rfl (by kernel_rfl) (by kernel_rfl) rfl rfl rfl (pv_fieldAddr rfl rfl) ?_
      refine xp_light (i := 5) rfl (by kernel_rfl) (by kernel_rfl) rfl rfl rfl (lv_load (v := .int _ _) rfl rfl (by exact cellAt_ext (hsa k (by omega)).1 hX)) ?_
      refine xp_pure (i := 6) rfl (by kernel_rfl) (by kernel_rfl) rfl rfl rfl (pv_move (v := .slice _ _ _) rfl rfl) ?_
      refine xp_pure (i := 7) rfl (by kernel_rfl) (by kernel_rfl) rfl rfl rfl (pv_move (v := .int _ _) rfl rfl) ?_
      refine xp_pure (i := 8) rfl (by kernel_rfl) (by kernel_rfl) rfl rfl rfl (pv_indexAddr_l rfl (sl_eq hae) rfl (by omega)) ?_
      refine xp_pure (i := 9) rfl (by kernel_rfl) (by kernel_rfl) rfl rfl rfl (pv_fieldAddr rfl rfl) ?_
      refine xp_light (i := 10) rfl (by kernel_rfl) (by kernel_rfl) rfl rfl rfl (lv_load (v := .int _ _) rfl rfl (by exact cellAt_ext (hsa k (by omega)).2 hX)) ?_
      refine xp_heavy (i := 11) (by kernel_rfl) ?_
      refine xph_val rfl rfl rfl rfl (hv_buildSlice (cs := [.int _ _, .int _ _]) rfl rfl rfl rfl rfl) (pd (by kernel_rfl) (pd (by kernel_rfl) pn)) ?_
      rintro v5_11 H5_11 ⟨b5_11, rfl, hN5_11⟩
      have gb5_11 := hX.fresh hN5_11
      have hX := hX.trans hN5_11.ext
      have m5_11 := hN5_11.blk
      refine ⟨okn, ?_⟩
      refine xp_heavy (i := 12) (by kernel_rfl) ?_
      refine xph_val rfl rfl rfl rfl (hv_call (g := 36) rfl rfl (c36 [gx l k, gq l k] _ m5_11 hpr (by simp)) rfl) pn ?_
      rintro v5_12 H5_12 ⟨rfl, hE5_12⟩
      have m5_11 := m5_11.ext hE5_12
      have hX := hX.trans hE5_12
      refine ⟨okn, ?_⟩
      refine xp_pure (i := 13) rfl (by kernel_rfl) (by kernel_rfl) rfl rfl rfl (pv_add_s rfl rfl rfl (by have h1 := encK_len (flat (l.take k)); have h2 := encK_len [gx l k, gq l k]; have h3 := uintB_le (l.length : Int); rw [flat_len] at h1; simp only [List.length_append, List.length_take, List.length_cons, List.length_nil] at *; omega)) ?_
      refine xp_pure (i := 14) rfl (by kernel_rfl) (by kernel_rfl) rfl rfl rfl (pv_assign (v := .string (bs _)) rfl rfl) ?_
      refine xp_done (by kernel_rfl) ?_
      refine xblock_normal ?_
      refine xthen_normal ?_
      refine xc_region ?_
      refine xl_pure rfl rfl rfl (pv_move (v := .int _ _) rfl rfl) ?_
      refine xl_pure rfl rfl rfl (pv_add rfl rfl rfl (fit_i64 (by omega))) ?_
      refine xl_pure rfl rfl rfl (pv_assign (v := .int _ _) rfl rfl) ?_
      refine xl_nil ?_
      refine xthen_normal ?_
      exact ⟨k + 1, ⟨rfl, sv (by rw [flat_take (by omega), encK_app, List.append_assoc]), rfl, trivial⟩, ⟨by (try simp only); omega, hX⟩, by (try simp only); omega⟩
    · skip
      refine xl_nil ?_
      refine xthen_normal ?_
      refine xc_cond_f rfl ?_
      refine xc_exit ?_
      refine xthen_exit ?_
      refine xthen_exit ?_
      refine xblock_same ?_
      refine xthen_normal ?_
      refine xc_seq ?_
      refine xc_region ?_
      refine xl_pure rfl rfl rfl (pv_move (v := .string (bs _)) rfl rfl) ?_
      refine xl_pure rfl rfl rfl (pv_assign (v := .string (bs _)) rfl rfl) ?_
      refine xl_nil ?_
      refine xthen_normal ?_
      refine xc_ret ?_
      refine fin_ret (res1 (v := .string (bs _)) rfl rfl) ?_
      exact ⟨sv (by rw [show l.take k = l from List.take_of_length_le (by omega)]; rfl), hX⟩
end Go.XG
