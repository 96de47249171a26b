/-
  Walks of the seat's functions over the logic XG: each function, what it computes. Printed by a program out of wip/walks.py.
-/
import Derived.Test.YtmmogpcmpbkajaaI
import Derived.Test.YtmmogpcmpbkajaaP
import Derived.Test.YtmmogpcmpbkajaaL
import Derived.Test.YtmmogpcmpbkajaaWa
import Derived.Test.YtmmogpcmpbkajaaWb
import Derived.Test.YtmmogpcmpbkajaaWc
import Derived.Test.YtmmogpcmpbkajaaWd
import Derived.Test.YtmmogpcmpbkajaaWe
import Derived.Test.YtmmogpcmpbkajaaWf
import Derived.Test.YtmmogpcmpbkajaaWg
import Derived.Test.YtmmogpcmpbkajaaWh
import Derived.Test.YtmmogpcmpbkajaaLn
import Derived.Test.YtmmogpcmpbkajaaNa
import Derived.Test.YtmmogpcmpbkajaaNb
import Derived.Test.YtmmogpcmpbkajaaNc
import Derived.Test.YtmmogpcmpbkajaaNd
import Derived.Test.YtmmogpcmpbkajaaNf
import Derived.Test.YtmmogpcmpbkajaaNg
import Derived.Test.YtmmogpcmpbkajaaXk
import Derived.Test.YtmmogpcmpbkajaaB6
import Derived.Test.YtmmogpcmpbkajaaWr
import Derived.Test.YtmmogpcmpbkajaaWs
import Derived.Test.YtmmogpcmpbkajaaWt
import Derived.Test.YtmmogpcmpbkajaaWu
namespace Go.XG
open Go.Proofs Go.Pen
set_option maxRecDepth 4000
set_option maxHeartbeats 4000000
theorem own_base {H : Heap} {b b' e size n : Nat} {v : Value} {xs : List Value} (h : Own H b e size v n xs) (hb : b' ≤ b) : Own H b' e size v n xs := by
  obtain ⟨h1, h2 | ⟨g, cap, cur, h3, h4, h5⟩⟩ := h
  · exact ⟨h1, .inl h2⟩
  · exact ⟨h1, .inr ⟨g, cap, cur, h3, Nat.le_trans hb h4, h5⟩⟩

theorem c58 {O : Outer} {H : Heap} {rd i : Nat} {s : List UInt8} {bad : Bool} (mr : Blk H rd [.string (bs s), .int .i64 (i : Nat), .bool bad] 61) (hi : i ≤ s.length) (hs : s.length < 4611686018427387904) :
    FnC Try.prog 58 #[.pointer (some ⟨rd, 0, none⟩)] O H (fun v H' => ∃ xs a c i' bad', v = .slice a (List.length xs) c ∧ (rdL (s.drop i, bad)).2 = (s.drop i', bad') ∧ (bad' = false → xs = (rdL (s.drop i, bad)).1) ∧ i' ≤ s.length ∧ xs.length ≤ 8 ∧ Own H' H.size 53 2 (.slice a (List.length xs) c) xs.length (fl xs) ∧ Upd H H' rd [.string (bs s), .int .i64 (i' : Nat), .bool bad'] 61) := by
  refine fn_enter (A := [.pointer (some ⟨rd, 0, none⟩)]) Try.func58 rfl rfl ?_
  have hX := But.refl rd H
  refine xc_seq ?_
  refine xc_region ?_
  refine xl_pure rfl rfl rfl (pv_assign (v := .slice _ _ _) rfl rfl) ?_
  refine xl_nil ?_
  refine xthen_normal ?_
  refine xc_seq ?_
  refine xc_region ?_
  refine xl_pure rfl rfl rfl (pv_move (v := .pointer _) rfl rfl) ?_
  refine xl_heavy rfl rfl rfl (hv_call (g := 57) rfl rfl (p16 (i := i) mr hi hs (8)) rfl) ?_
  rintro v1_1 H1_1 ⟨n1_1, i1_1, bad1_1, hw1_1, hi1_1, rfl, hn1_1, hU1_1⟩
  have hX := hX.trans hU1_1.but
  have mr := hU1_1.blk
  refine xl_pure rfl rfl rfl (pv_assign (v := .int _ _) rfl rfl) ?_
  refine xl_nil ?_
  refine xthen_normal ?_
  refine xc_seq ?_
  refine xc_region ?_
  refine xl_pure rfl rfl rfl (pv_assign (v := .slice _ _ _) rfl rfl) ?_
  refine xl_nil ?_
  refine xthen_normal ?_
  refine xc_seq ?_
  refine xc_seq ?_
  refine xc_region ?_
  refine xl_pure rfl rfl rfl (pv_assign (v := .int _ _) rfl rfl) ?_
  refine xl_nil ?_
  refine xthen_normal ?_
  refine xc_block ?_
  refine xc_loop (τ := List Stack × Nat × Bool × Nat × Value) (fun t => [(0, .pointer (some ⟨rd, 0, none⟩)), (3, .int .i64 (n1_1 : Nat)), (4, t.2.2.2.2), (5, .int .i64 (t.2.2.2.1 : Nat))]) (fun t H' => (t.2.2.2.1 ≤ n1_1) ∧ (rdP t.2.2.2.1 (s.drop i1_1, bad1_1) = (t.1, (s.drop t.2.1, t.2.2.1))) ∧ (t.1.length = t.2.2.2.1) ∧ (t.2.1 ≤ s.length) ∧ (Blk H' rd [.string (bs s), .int .i64 (t.2.1 : Nat), .bool t.2.2.1] 61) ∧ (Own H' H.size 53 2 t.2.2.2.2 t.1.length (fl t.1)) ∧ (But rd H H')) (fun t H' => n1_1 - t.2.2.2.1) ([], i1_1, bad1_1, 0, .slice none 0 0) ?_ ?_ ?_
  · exact ⟨rfl, rfl, rfl, rfl, trivial⟩
  · skip
    exact ⟨Nat.zero_le _, rfl, rfl, hi1_1, mr, Own.nil .., hX⟩
  · intro σ
    clear hX mr
    rintro ⟨xs, i0, bad0, k, vo4⟩ Hl4 ⟨hk, hrd, hxl, hi0, mr, ho, hX⟩
    replace hk : k ≤ n1_1 := hk
    replace hrd : rdP k (s.drop i1_1, bad1_1) = (xs, (s.drop i0, bad0)) := hrd
    replace hxl : xs.length = k := hxl
    replace hi0 : i0 ≤ s.length := hi0
    replace mr : Blk Hl4 rd [.string (bs s), .int .i64 (i0 : Nat), .bool bad0] 61 := mr
    replace ho : Own Hl4 H.size 53 2 vo4 xs.length (fl xs) := ho
    replace hX : But rd H Hl4 := hX
    obtain ⟨va4, vc4, rfl⟩ := ho.val
    show XC _ _ _ (upds σ [(0, .pointer (some ⟨rd, 0, none⟩)), (3, .int .i64 (n1_1 : Nat)), (4, .slice va4 xs.length vc4), (5, .int .i64 (k : Nat))]) _
    refine xc_seq ?_
    refine xc_seq ?_
    have hn8 : (n1_1 : Int) ≤ 8 := uintS_le (by decide) hw1_1
    refine xc_region ?_
    refine xl_pure rfl rfl rfl (pv_move (v := .int _ _) rfl rfl) ?_
    refine xl_pure rfl rfl rfl (pv_move (v := .int _ _) rfl rfl) ?_
    refine xl_dec rfl rfl rfl (pv_lss rfl rfl rfl) (fun h4_2 => ?_) (fun h4_2 => ?_)
    · skip
      refine xl_pure rfl rfl rfl (pv_move (v := .bool _) rfl rfl) ?_
      refine xl_pure rfl rfl rfl (pv_move (v := .pointer _) rfl rfl) ?_
      refine xl_pure rfl rfl rfl (pv_nilCheck_p rfl rfl) ?_
      refine xl_pure rfl rfl rfl (pv_fieldAddr rfl rfl) ?_
      refine xl_light rfl rfl rfl (lv_load (v := .bool _) rfl rfl (ld_blk mr rfl)) ?_
      cases bad0
      · skip
        refine xl_pure rfl rfl rfl (pv_not rfl rfl) ?_
        refine xl_pure rfl rfl rfl (pv_pick_t (v := .bool _) rfl rfl rfl) ?_
        refine xl_nil ?_
        refine xthen_normal ?_
        refine xc_cond_t rfl ?_
        refine xc_skip ?_
        refine xthen_normal ?_
        refine xc_seq ?_
        refine xc_block ?_
        refine xc_seq ?_
        refine xc_region ?_
        refine xl_pure rfl rfl rfl (pv_move (v := .pointer _) rfl rfl) ?_
        refine xl_heavy rfl rfl rfl (hv_call (g := 57) rfl rfl (p16 (i := i0) mr hi0 hs (9223372036854775807)) rfl) ?_
        rintro v6_1 H6_1 ⟨n6_1, i6_1, bad6_1, hw6_1, hi6_1, rfl, hn6_1, hU6_1⟩
        have ho := ho.offU mr hU6_1.but (.inl rfl)
        have hX := hX.trans hU6_1.but
        have mr := hU6_1.blk
        refine xl_pure rfl rfl rfl (pv_build_s (cs := [.int _ _, .int _ _]) rfl rfl rfl) ?_
        refine xl_heavy rfl rfl rfl (hv_alloc rfl rfl) ?_
        rintro v6_3 H6_3 ⟨b6_3, rfl, hN6_3⟩
        have gb6_3 := hX.fresh hN6_3
        have nmr_6_3 := mr.apart hN6_3
        have pm6_3_ho := ho.apartN hN6_3
        have mr := mr.ext hN6_3.ext
        have ho := ho.ext hN6_3.ext
        have hX := hX.transE hN6_3.ext
        have m6_3 := hN6_3.blk
        refine xl_store rfl rfl (hv_storeA (vs := [.int _ _, .int _ _]) rfl rfl rfl (m6_3) rfl (by rfl) rfl) ?_
        rintro v6_4 H6_4 ⟨hU6_4, hZ6_4⟩
        have mr := mr.off hU6_4.but (nmr_6_3)
        have ho := ho.offU m6_3 hU6_4.but (.inr pm6_3_ho)
        have hX := hX.upd hU6_4.but gb6_3
        have m6_3 := hU6_4.blk
        refine xl_nil ?_
        refine xthen_normal ?_
        refine xc_seq ?_
        refine xc_region ?_
        refine xl_pure rfl rfl rfl (pv_move (v := .pointer _) rfl rfl) ?_
        refine xl_heavy rfl rfl rfl (hv_call (g := 57) rfl rfl (p16 (i := i6_1) mr hi6_1 hs (9223372036854775807)) rfl) ?_
        rintro v7_1 H7_1 ⟨n7_1, i7_1, bad7_1, hw7_1, hi7_1, rfl, hn7_1, hU7_1⟩
        have ho := ho.offU mr hU7_1.but (.inl rfl)
        have m6_3 := m6_3.off hU7_1.but (nmr_6_3.symm)
        have hX := hX.trans hU7_1.but
        have mr := hU7_1.blk
        refine xl_pure rfl rfl rfl (pv_fieldAddr rfl rfl) ?_
        refine xl_store rfl rfl (hv_store (vs := [.int _ _]) rfl rfl rfl (m6_3) rfl (Nat.le_of_ble_eq_true rfl) rfl) ?_
        rintro v7_3 H7_3 ⟨hU7_3, hZ7_3⟩
        have mr := mr.off hU7_3.but (nmr_6_3)
        have ho := ho.offU m6_3 hU7_3.but (.inr pm6_3_ho)
        have hX := hX.upd hU7_3.but gb6_3
        have m6_3 := hU7_3.blk
        refine xl_nil ?_
        refine xthen_normal ?_
        refine xc_region ?_
        refine xl_pure rfl rfl rfl (pv_move (v := .slice _ _ _) rfl rfl) ?_
        refine xl_light rfl rfl rfl (lv_load (v := .agg _) rfl rfl (ld_blk_a m6_3 rfl rfl)) ?_
        refine xl_heavy rfl rfl rfl (hv_buildSlice (cs := [.int _ _, .int _ _]) rfl rfl rfl rfl rfl) ?_
        rintro v8_2 H8_2 ⟨b8_2, rfl, hN8_2⟩
        have gb8_2 := hX.fresh hN8_2
        have nmr_8_2 := mr.apart hN8_2
        have pm8_2_ho := ho.apartN hN8_2
        have nm6_3_8_2 := m6_3.apart hN8_2
        have mr := mr.ext hN8_2.ext
        have ho := ho.ext hN8_2.ext
        have m6_3 := m6_3.ext hN8_2.ext
        have hX := hX.transE hN8_2.ext
        have m8_2 := hN8_2.blk
        refine xl_heavy rfl rfl rfl (hv_append rfl rfl ho rfl (m8_2.row) rfl (by simp [Value.oneCell']) rfl (by decide) (by omega) (by omega) hX.size) ?_
        rintro v8_3 H8_3 ⟨hO8_3, hG8_3, -, hB8_3⟩
        have mr := mr.offT ho hG8_3 rfl
        have lt_m6_3_8_3 := m6_3.lt
        have m6_3 := m6_3.offA hG8_3 (pm6_3_ho)
        have hX := ho.grownB hX hG8_3 (Nat.le_refl _)
        have pm6_3_hO8_3 := OwnApart.grown pm6_3_ho hB8_3 (lt_m6_3_8_3)
        obtain ⟨a8_3, c8_3, rfl⟩ := hO8_3.val
        refine xl_pure rfl rfl rfl (pv_assign (v := .slice _ _ _) rfl rfl) ?_
        refine xl_nil ?_
        refine xblock_normal ?_
        refine xthen_normal ?_
        refine xc_region ?_
        refine xl_pure rfl rfl rfl (pv_move (v := .int _ _) rfl rfl) ?_
        refine xl_pure rfl rfl rfl (pv_add rfl rfl rfl (fit_i64 (by omega))) ?_
        refine xl_pure rfl rfl rfl (pv_assign (v := .int _ _) rfl rfl) ?_
        refine xl_nil ?_
        refine xthen_normal ?_
        exact ⟨(xs ++ [((n6_1 : Int), (n7_1 : Int))], _, _, k + 1, _), ⟨rfl, rfl, rfl, rfl, trivial⟩, ⟨by (try simp only); omega, rdP_succ hrd hw6_1 hw7_1, by simp [hxl], hi7_1, mr, by simpa [fl_snoc] using hO8_3, hX⟩, by (try simp only); omega⟩
      · skip
        refine xl_pure rfl rfl rfl (pv_not rfl rfl) ?_
        refine xl_pure rfl rfl rfl (pv_pick_t (v := .bool _) rfl rfl rfl) ?_
        refine xl_nil ?_
        refine xthen_normal ?_
        refine xc_cond_f rfl ?_
        refine xc_exit ?_
        refine xthen_exit ?_
        refine xthen_exit ?_
        refine xblock_same ?_
        refine xthen_normal ?_
        refine xc_seq ?_
        refine xc_region ?_
        refine xl_pure rfl rfl rfl (pv_move (v := .slice _ _ _) rfl rfl) ?_
        refine xl_pure rfl rfl rfl (pv_assign (v := .slice _ _ _) rfl rfl) ?_
        refine xl_nil ?_
        refine xthen_normal ?_
        refine xc_ret ?_
        refine fin_ret (res1 (v := .slice _ _ _) rfl rfl) ?_
        first
          | exact ⟨xs, _, _, i0, _, rfl, by unfold rdL; rw [hw1_1]; simp only; rw [show n1_1 = k by omega, hrd], fun _ => by unfold rdL; rw [hw1_1]; simp only; rw [show n1_1 = k by omega, hrd], hi0, by omega, ho, hX, mr⟩
          | exact ⟨xs, _, _, i0, true, rfl, by unfold rdL; rw [hw1_1]; simp only; rw [show n1_1 = k + (n1_1 - k) by omega]; exact rdP_stays (by rw [hrd]) _, fun h => absurd h (by decide), hi0, by omega, ho, hX, mr⟩
    · skip
      refine xl_pure rfl rfl rfl (pv_move (v := .bool _) rfl rfl) ?_
      refine xl_skip rfl rfl rfl ?_
      refine xl_skip rfl rfl rfl ?_
      refine xl_skip rfl rfl rfl ?_
      refine xl_skip rfl rfl rfl ?_
      refine xl_skip rfl rfl rfl ?_
      refine xl_pure rfl rfl rfl (pv_pick_f (v := .bool _) rfl rfl rfl) ?_
      refine xl_nil ?_
      refine xthen_normal ?_
      refine xc_cond_f rfl ?_
      refine xc_exit ?_
      refine xthen_exit ?_
      refine xthen_exit ?_
      refine xblock_same ?_
      refine xthen_normal ?_
      refine xc_seq ?_
      refine xc_region ?_
      refine xl_pure rfl rfl rfl (pv_move (v := .slice _ _ _) rfl rfl) ?_
      refine xl_pure rfl rfl rfl (pv_assign (v := .slice _ _ _) rfl rfl) ?_
      refine xl_nil ?_
      refine xthen_normal ?_
      refine xc_ret ?_
      refine fin_ret (res1 (v := .slice _ _ _) rfl rfl) ?_
      first
        | exact ⟨xs, _, _, i0, _, rfl, by unfold rdL; rw [hw1_1]; simp only; rw [show n1_1 = k by omega, hrd], fun _ => by unfold rdL; rw [hw1_1]; simp only; rw [show n1_1 = k by omega, hrd], hi0, by omega, ho, hX, mr⟩
        | exact ⟨xs, _, _, i0, true, rfl, by unfold rdL; rw [hw1_1]; simp only; rw [show n1_1 = k + (n1_1 - k) by omega]; exact rdP_stays (by rw [hrd]) _, fun h => absurd h (by decide), hi0, by omega, ho, hX, mr⟩

theorem c42 {O : Outer} {H : Heap} {rd i : Nat} {s : List UInt8} {bad : Bool} (mr : Blk H rd [.string (bs s), .int .i64 (i : Nat), .bool bad] 61) (hi : i ≤ s.length) (hs : s.length < 4611686018427387904) :
    FnC Try.prog 42 #[.pointer (some ⟨rd, 0, none⟩)] O H (fun v H' => ∃ x a c i' bad', v = jv x a c ∧ (jobS (s.drop i, bad)).2 = (s.drop i', bad') ∧ (bad' = false → x = (jobS (s.drop i, bad)).1) ∧ Own H' H.size 53 2 (.slice a x.needs.length c) x.needs.length (fl x.needs) ∧ x.needs.length ≤ 8 ∧ i' ≤ s.length ∧ Upd H H' rd [.string (bs s), .int .i64 (i' : Nat), .bool bad'] 61) := by
  refine fn_enter (A := [.pointer (some ⟨rd, 0, none⟩)]) Try.func42 rfl rfl ?_
  have hX := But.refl rd H
  refine xc_seq ?_
  refine xc_region ?_
  refine xl_heavy rfl rfl rfl (hv_alloc rfl rfl) ?_
  rintro v0_0 H0_0 ⟨b0_0, rfl, hN0_0⟩
  have gb0_0 := hX.fresh hN0_0
  have nmr_0_0 := mr.apart hN0_0
  have mr := mr.ext hN0_0.ext
  have hX := hX.transE hN0_0.ext
  have m0_0 := hN0_0.blk
  refine xl_nil ?_
  refine xthen_normal ?_
  refine xc_seq ?_
  refine xc_region ?_
  refine xl_heavy rfl rfl rfl (hv_alloc rfl rfl) ?_
  rintro v1_0 H1_0 ⟨b1_0, rfl, hN1_0⟩
  have gb1_0 := hX.fresh hN1_0
  have nmr_1_0 := mr.apart hN1_0
  have nm0_0_1_0 := m0_0.apart hN1_0
  have mr := mr.ext hN1_0.ext
  have m0_0 := m0_0.ext hN1_0.ext
  have hX := hX.transE hN1_0.ext
  have m1_0 := hN1_0.blk
  refine xl_nil ?_
  refine xthen_normal ?_
  refine xc_seq ?_
  refine xc_seq ?_
  refine xc_region ?_
  refine xl_pure rfl rfl rfl (pv_assign (v := .int _ _) rfl rfl) ?_
  refine xl_nil ?_
  refine xthen_normal ?_
  refine xc_block ?_
  refine xc_loop (τ := List Int × Nat × Bool) (fun t => [(0, .pointer (some ⟨rd, 0, none⟩)), (2, .pointer (some ⟨b0_0, 0, none⟩)), (3, .pointer (some ⟨b1_0, 0, none⟩)), (4, .int .i64 (List.length t.1 : Nat))]) (fun t H' => (t.1.length ≤ 11) ∧ (rdU t.1.length (s.drop i, bad) = (t.1, (s.drop t.2.1, t.2.2))) ∧ (t.2.1 ≤ s.length) ∧ (Blk H' rd [.string (bs s), .int .i64 (t.2.1 : Nat), .bool t.2.2] 61) ∧ (Blk H' b0_0 (jcs J0 none 0) 26) ∧ (Blk H' b1_0 (ints (ar15 t.1)) 74) ∧ (But rd H H')) (fun t H' => 11 - t.1.length) ([], i, bad) ?_ ?_ ?_
  · exact ⟨rfl, rfl, rfl, rfl, trivial⟩
  · skip
    exact ⟨Nat.zero_le _, rfl, hi, mr, m0_0, m1_0, hX⟩
  · intro σ
    clear hX mr m0_0 m1_0
    rintro ⟨ns, i0, bad0⟩ Hl3 ⟨hk, hrd, hi0, mr, m0_0, m1_0, hX⟩
    replace hk : ns.length ≤ 11 := hk
    replace hrd : rdU ns.length (s.drop i, bad) = (ns, (s.drop i0, bad0)) := hrd
    replace hi0 : i0 ≤ s.length := hi0
    replace mr : Blk Hl3 rd [.string (bs s), .int .i64 (i0 : Nat), .bool bad0] 61 := mr
    replace m0_0 : Blk Hl3 b0_0 (jcs J0 none 0) 26 := m0_0
    replace m1_0 : Blk Hl3 b1_0 (ints (ar15 ns)) 74 := m1_0
    replace hX : But rd H Hl3 := hX
    show XC _ _ _ (upds σ [(0, .pointer (some ⟨rd, 0, none⟩)), (2, .pointer (some ⟨b0_0, 0, none⟩)), (3, .pointer (some ⟨b1_0, 0, none⟩)), (4, .int .i64 (List.length ns : Nat))]) _
    refine xc_seq ?_
    refine xc_seq ?_
    refine xc_region ?_
    refine xl_pure rfl rfl rfl (pv_move (v := .int _ _) rfl rfl) ?_
    refine xl_dec rfl rfl rfl (pv_lss rfl rfl rfl) (fun h3_1 => ?_) (fun h3_1 => ?_)
    · skip
      refine xl_nil ?_
      refine xthen_normal ?_
      refine xc_cond_t rfl ?_
      refine xc_skip ?_
      refine xthen_normal ?_
      refine xc_seq ?_
      refine xc_block ?_
      refine xc_region ?_
      refine xl_pure rfl rfl rfl (pv_move (v := .int _ _) rfl rfl) ?_
      refine xl_pure rfl rfl rfl (pv_move (v := .pointer _) rfl rfl) ?_
      refine xl_heavy rfl rfl rfl (hv_call (g := 57) rfl rfl (p16 (i := i0) mr hi0 hs (9223372036854775807)) rfl) ?_
      rintro v5_2 H5_2 ⟨n5_2, i5_2, bad5_2, hw5_2, hi5_2, rfl, hn5_2, hU5_2⟩
      have m0_0 := m0_0.off hU5_2.but (nmr_0_0.symm)
      have m1_0 := m1_0.off hU5_2.but (nmr_1_0.symm)
      have hX := hX.trans hU5_2.but
      have mr := hU5_2.blk
      refine xl_pure rfl rfl rfl (pv_indexAddr_a rfl rfl rfl (by omega)) ?_
      refine xl_store rfl rfl (hv_store (vs := [.int .i64 (n5_2 : Nat)]) rfl rfl rfl m1_0 rfl (by rw [show (ints (ar15 (ns))).length = 15 from by rw [ints, List.length_map]; exact ar15_len (by (try simp only [List.length_append]); omega)]; simp; omega) rfl) ?_
      rintro v5_4 H5_4 ⟨hU5_4, hZ5_4⟩
      have mr := mr.off hU5_4.but (nmr_1_0)
      have m0_0 := m0_0.off hU5_4.but (nm0_0_1_0)
      have hX := hX.upd hU5_4.but gb1_0
      have m1_0 := hU5_4.blk
      rw [Int.toNat_natCast, ar15_set (by omega)] at m1_0
      refine xl_nil ?_
      refine xblock_normal ?_
      refine xthen_normal ?_
      refine xc_region ?_
      refine xl_pure rfl rfl rfl (pv_move (v := .int _ _) rfl rfl) ?_
      refine xl_pure rfl rfl rfl (pv_add rfl rfl rfl (fit_i64 (by omega))) ?_
      refine xl_pure rfl rfl rfl (pv_assign (v := .int _ _) rfl rfl) ?_
      refine xl_nil ?_
      refine xthen_normal ?_
      exact ⟨(ns ++ [(n5_2 : Int)], _, _), ⟨rfl, rfl, rfl, iv (by simp), trivial⟩, ⟨by (try simp only); simp; omega, by (try simp only); rw [List.length_append]; exact rdU_succ hrd hw5_2, hi5_2, mr, m0_0, m1_0, hX⟩, by (try simp only); simp; omega⟩
    · skip
      refine xl_nil ?_
      refine xthen_normal ?_
      refine xc_cond_f rfl ?_
      refine xc_exit ?_
      refine xthen_exit ?_
      refine xthen_exit ?_
      refine xblock_same ?_
      refine xthen_normal ?_
      refine xc_seq ?_
      have hn11 : ns.length = 11 := by omega
      have hz6 := hX.size
      refine xc_region ?_
      refine xl_pure rfl rfl rfl (pv_move (v := .pointer _) rfl rfl) ?_
      refine xl_heavy rfl rfl rfl (hv_call (g := 58) rfl rfl (c58 (i := i0) mr hi0 hs) rfl) ?_
      rintro v6_1 H6_1 ⟨xs6_1, a6_1, c6_1, i6_1, bad6_1, rfl, hd6_1, hx6_1, hi6_1, hxl6_1, ho6_1, hU6_1⟩
      have m0_0 := m0_0.off hU6_1.but (nmr_0_0.symm)
      have m1_0 := m1_0.off hU6_1.but (nmr_1_0.symm)
      have hX := hX.trans hU6_1.but
      have mr := hU6_1.blk
      have ho6_1 := own_base ho6_1 hz6
      refine xl_pure rfl rfl rfl (pv_assign (v := .slice _ _ _) rfl rfl) ?_
      refine xl_nil ?_
      refine xthen_normal ?_
      refine xc_seq ?_
      refine xc_seq ?_
      refine xc_region ?_
      refine xl_pure rfl rfl rfl (pv_assign (v := .int _ _) rfl rfl) ?_
      refine xl_nil ?_
      refine xthen_normal ?_
      refine xc_block ?_
      refine xc_loop (τ := List Int × Nat × Bool) (fun t => [(0, .pointer (some ⟨rd, 0, none⟩)), (2, .pointer (some ⟨b0_0, 0, none⟩)), (3, .pointer (some ⟨b1_0, 0, none⟩)), (5, .slice a6_1 (List.length xs6_1) c6_1), (6, .int .i64 ((11 + List.length t.1 : Nat) : Int))]) (fun t H' => (t.1.length ≤ 4) ∧ (rdU t.1.length (s.drop i6_1, bad6_1) = (t.1, (s.drop t.2.1, t.2.2))) ∧ (t.2.1 ≤ s.length) ∧ (Blk H' rd [.string (bs s), .int .i64 (t.2.1 : Nat), .bool t.2.2] 61) ∧ (Blk H' b0_0 (jcs J0 none 0) 26) ∧ (Blk H' b1_0 (ints (ar15 (ns ++ t.1))) 74) ∧ (Own H' H.size 53 2 (.slice a6_1 (List.length xs6_1) c6_1) xs6_1.length (fl xs6_1)) ∧ (But rd H H')) (fun t H' => 4 - t.1.length) ([], i6_1, bad6_1) ?_ ?_ ?_
      · exact ⟨rfl, rfl, rfl, rfl, rfl, trivial⟩
      · skip
        exact ⟨Nat.zero_le _, rfl, hi6_1, mr, m0_0, by rw [List.append_nil]; exact m1_0, ho6_1, hX⟩
      · intro σ
        clear hX mr m0_0 m1_0 ho6_1
        rintro ⟨ms, i2, bad2⟩ Hl8 ⟨hj, hms, hi2, mr, m0_0, m1_0, ho6_1, hX⟩
        replace hj : ms.length ≤ 4 := hj
        replace hms : rdU ms.length (s.drop i6_1, bad6_1) = (ms, (s.drop i2, bad2)) := hms
        replace hi2 : i2 ≤ s.length := hi2
        replace mr : Blk Hl8 rd [.string (bs s), .int .i64 (i2 : Nat), .bool bad2] 61 := mr
        replace m0_0 : Blk Hl8 b0_0 (jcs J0 none 0) 26 := m0_0
        replace m1_0 : Blk Hl8 b1_0 (ints (ar15 (ns ++ ms))) 74 := m1_0
        replace ho6_1 : Own Hl8 H.size 53 2 (.slice a6_1 (List.length xs6_1) c6_1) xs6_1.length (fl xs6_1) := ho6_1
        replace hX : But rd H Hl8 := hX
        show XC _ _ _ (upds σ [(0, .pointer (some ⟨rd, 0, none⟩)), (2, .pointer (some ⟨b0_0, 0, none⟩)), (3, .pointer (some ⟨b1_0, 0, none⟩)), (5, .slice a6_1 (List.length xs6_1) c6_1), (6, .int .i64 ((11 + List.length ms : Nat) : Int))]) _
        refine xc_seq ?_
        refine xc_seq ?_
        refine xc_region ?_
        refine xl_pure rfl rfl rfl (pv_move (v := .int _ _) rfl rfl) ?_
        refine xl_dec rfl rfl rfl (pv_lss rfl rfl rfl) (fun h8_1 => ?_) (fun h8_1 => ?_)
        · skip
          refine xl_nil ?_
          refine xthen_normal ?_
          refine xc_cond_t rfl ?_
          refine xc_skip ?_
          refine xthen_normal ?_
          refine xc_seq ?_
          refine xc_block ?_
          refine xc_region ?_
          refine xl_pure rfl rfl rfl (pv_move (v := .int _ _) rfl rfl) ?_
          refine xl_pure rfl rfl rfl (pv_move (v := .pointer _) rfl rfl) ?_
          refine xl_heavy rfl rfl rfl (hv_call (g := 57) rfl rfl (p16 (i := i2) mr hi2 hs (9223372036854775807)) rfl) ?_
          rintro v10_2 H10_2 ⟨n10_2, i10_2, bad10_2, hw10_2, hi10_2, rfl, hn10_2, hU10_2⟩
          have m0_0 := m0_0.off hU10_2.but (nmr_0_0.symm)
          have m1_0 := m1_0.off hU10_2.but (nmr_1_0.symm)
          have ho6_1 := ho6_1.offU mr hU10_2.but (.inl rfl)
          have hX := hX.trans hU10_2.but
          have mr := hU10_2.blk
          refine xl_pure rfl rfl rfl (pv_indexAddr_a rfl rfl rfl (by omega)) ?_
          refine xl_store rfl rfl (hv_store (vs := [.int .i64 (n10_2 : Nat)]) rfl rfl rfl m1_0 rfl (by rw [show (ints (ar15 (ns ++ ms))).length = 15 from by rw [ints, List.length_map]; exact ar15_len (by (try simp only [List.length_append]); omega)]; simp; omega) rfl) ?_
          rintro v10_4 H10_4 ⟨hU10_4, hZ10_4⟩
          have mr := mr.off hU10_4.but (nmr_1_0)
          have m0_0 := m0_0.off hU10_4.but (nm0_0_1_0)
          have ho6_1 := ho6_1.offU m1_0 hU10_4.but (.inl rfl)
          have hX := hX.upd hU10_4.but gb1_0
          have m1_0 := hU10_4.blk
          rw [Int.toNat_natCast, show 11 + ms.length = (ns ++ ms).length by simp; omega, ar15_set (by simp; omega), List.append_assoc] at m1_0
          refine xl_nil ?_
          refine xblock_normal ?_
          refine xthen_normal ?_
          refine xc_region ?_
          refine xl_pure rfl rfl rfl (pv_move (v := .int _ _) rfl rfl) ?_
          refine xl_pure rfl rfl rfl (pv_add rfl rfl rfl (fit_i64 (by omega))) ?_
          refine xl_pure rfl rfl rfl (pv_assign (v := .int _ _) rfl rfl) ?_
          refine xl_nil ?_
          refine xthen_normal ?_
          exact ⟨(ms ++ [(n10_2 : Int)], _, _), ⟨rfl, rfl, rfl, rfl, iv (by simp; omega), trivial⟩, ⟨by (try simp only); simp; omega, by (try simp only); rw [List.length_append]; exact rdU_succ hms hw10_2, hi10_2, mr, m0_0, m1_0, ho6_1, hX⟩, by (try simp only); simp; omega⟩
        · skip
          refine xl_nil ?_
          refine xthen_normal ?_
          refine xc_cond_f rfl ?_
          refine xc_exit ?_
          refine xthen_exit ?_
          refine xthen_exit ?_
          refine xblock_same ?_
          refine xthen_normal ?_
          refine xc_seq ?_
          have hm4 : ms.length = 4 := by omega
          rw [ar15_all hn11 hm4] at m1_0
          rw [hn11] at hrd
          rw [hm4] at hms
          refine xc_region ?_
          refine xl_pure rfl rfl rfl (pv_indexAddr_a rfl rfl rfl (by omega)) ?_
          refine xl_light rfl rfl rfl (lv_load (v := .int _ _) rfl rfl (ld_blk m1_0 rfl)) ?_
          refine xl_pure rfl rfl rfl (pv_indexAddr_a rfl rfl rfl (by omega)) ?_
          refine xl_light rfl rfl rfl (lv_load (v := .int _ _) rfl rfl (ld_blk m1_0 rfl)) ?_
          refine xl_pure rfl rfl rfl (pv_indexAddr_a rfl rfl rfl (by omega)) ?_
          refine xl_light rfl rfl rfl (lv_load (v := .int _ _) rfl rfl (ld_blk m1_0 rfl)) ?_
          refine xl_pure rfl rfl rfl (pv_indexAddr_a rfl rfl rfl (by omega)) ?_
          refine xl_light rfl rfl rfl (lv_load (v := .int _ _) rfl rfl (ld_blk m1_0 rfl)) ?_
          refine xl_pure rfl rfl rfl (pv_indexAddr_a rfl rfl rfl (by omega)) ?_
          refine xl_light rfl rfl rfl (lv_load (v := .int _ _) rfl rfl (ld_blk m1_0 rfl)) ?_
          refine xl_pure rfl rfl rfl (pv_indexAddr_a rfl rfl rfl (by omega)) ?_
          refine xl_light rfl rfl rfl (lv_load (v := .int _ _) rfl rfl (ld_blk m1_0 rfl)) ?_
          refine xl_pure rfl rfl rfl (pv_indexAddr_a rfl rfl rfl (by omega)) ?_
          refine xl_light rfl rfl rfl (lv_load (v := .int _ _) rfl rfl (ld_blk m1_0 rfl)) ?_
          refine xl_pure rfl rfl rfl (pv_indexAddr_a rfl rfl rfl (by omega)) ?_
          refine xl_light rfl rfl rfl (lv_load (v := .int _ _) rfl rfl (ld_blk m1_0 rfl)) ?_
          refine xl_pure rfl rfl rfl (pv_indexAddr_a rfl rfl rfl (by omega)) ?_
          refine xl_light rfl rfl rfl (lv_load (v := .int _ _) rfl rfl (ld_blk m1_0 rfl)) ?_
          refine xl_pure rfl rfl rfl (pv_indexAddr_a rfl rfl rfl (by omega)) ?_
          refine xl_light rfl rfl rfl (lv_load (v := .int _ _) rfl rfl (ld_blk m1_0 rfl)) ?_
          refine xl_pure rfl rfl rfl (pv_indexAddr_a rfl rfl rfl (by omega)) ?_
          refine xl_light rfl rfl rfl (lv_load (v := .int _ _) rfl rfl (ld_blk m1_0 rfl)) ?_
          refine xl_pure rfl rfl rfl (pv_move (v := .slice _ _ _) rfl rfl) ?_
          refine xl_pure rfl rfl rfl (pv_indexAddr_a rfl rfl rfl (by omega)) ?_
          refine xl_light rfl rfl rfl (lv_load (v := .int _ _) rfl rfl (ld_blk m1_0 rfl)) ?_
          refine xl_pure rfl rfl rfl (pv_indexAddr_a rfl rfl rfl (by omega)) ?_
          refine xl_light rfl rfl rfl (lv_load (v := .int _ _) rfl rfl (ld_blk m1_0 rfl)) ?_
          refine xl_pure rfl rfl rfl (pv_indexAddr_a rfl rfl rfl (by omega)) ?_
          refine xl_light rfl rfl rfl (lv_load (v := .int _ _) rfl rfl (ld_blk m1_0 rfl)) ?_
          refine xl_pure rfl rfl rfl (pv_indexAddr_a rfl rfl rfl (by omega)) ?_
          refine xl_light rfl rfl rfl (lv_load (v := .int _ _) rfl rfl (ld_blk m1_0 rfl)) ?_
          refine xl_pure rfl rfl rfl (pv_build_s (cs := jcs (mkJ ns xs6_1 ms) a6_1 c6_1) rfl rfl (by kernel_rfl)) ?_
          refine xl_store rfl rfl (hv_storeA (vs := jcs (mkJ ns xs6_1 ms) a6_1 c6_1) rfl rfl rfl (m0_0) rfl (by rfl) rfl) ?_
          rintro v11_32 H11_32 ⟨hU11_32, hZ11_32⟩
          have mr := mr.off hU11_32.but (nmr_0_0)
          have m1_0 := m1_0.off hU11_32.but (nm0_0_1_0.symm)
          have ho6_1 := ho6_1.offU m0_0 hU11_32.but (.inl rfl)
          have hX := hX.upd hU11_32.but gb0_0
          have m0_0 := hU11_32.blk
          refine xl_nil ?_
          refine xthen_normal ?_
          refine xc_ret ?_
          refine fin_ret (resv1 rfl (rv_c (ty := 26) rfl (ld_blk_a m0_0 rfl rfl))) ?_
          exact ⟨mkJ ns xs6_1 ms, _, _, i2, bad2, rfl, scan_st hrd hd6_1 hms, scan_x hrd hd6_1 hms hx6_1, ho6_1, hxl6_1, hi2, hX, mr⟩
end Go.XG
