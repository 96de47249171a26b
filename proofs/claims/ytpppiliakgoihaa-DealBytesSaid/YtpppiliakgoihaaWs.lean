/-
  Walks of the seat's functions over the logic XG: each function, what it computes. Printed by a program out of wip/walks.py.
-/
import Derived.Test.YtpppiliakgoihaaI
import Derived.Test.YtpppiliakgoihaaG
import Derived.Test.YtpppiliakgoihaaP
import Derived.Test.YtpppiliakgoihaaWa
import Derived.Test.YtpppiliakgoihaaWb
import Derived.Test.YtpppiliakgoihaaWc
import Derived.Test.YtpppiliakgoihaaWd
import Derived.Test.YtpppiliakgoihaaQ
import Derived.Test.YtpppiliakgoihaaR
import Derived.Test.YtpppiliakgoihaaXg
import Derived.Test.YtpppiliakgoihaaWe
import Derived.Test.YtpppiliakgoihaaWf
import Derived.Test.YtpppiliakgoihaaWg
import Derived.Test.YtpppiliakgoihaaWh
import Derived.Test.YtpppiliakgoihaaWi
import Derived.Test.YtpppiliakgoihaaWj
import Derived.Test.YtpppiliakgoihaaWk
import Derived.Test.YtpppiliakgoihaaV
import Derived.Test.YtpppiliakgoihaaXh
import Derived.Test.YtpppiliakgoihaaWl
import Derived.Test.YtpppiliakgoihaaWm
import Derived.Test.YtpppiliakgoihaaWn
import Derived.Test.YtpppiliakgoihaaU
import Derived.Test.YtpppiliakgoihaaWo
import Derived.Test.YtpppiliakgoihaaLn
import Derived.Test.YtpppiliakgoihaaNa
import Derived.Test.YtpppiliakgoihaaNb
import Derived.Test.YtpppiliakgoihaaNc
import Derived.Test.YtpppiliakgoihaaNd
import Derived.Test.YtpppiliakgoihaaNf
import Derived.Test.YtpppiliakgoihaaNg
import Derived.Test.YtpppiliakgoihaaXk
import Derived.Test.YtpppiliakgoihaaB5
import Derived.Test.YtpppiliakgoihaaWr
namespace Go.XG
open Go.Proofs Go.Pen
set_option maxRecDepth 4000
set_option maxHeartbeats 4000000
theorem c25 {O : Outer} {H : Heap} (d : D) (a b : Option Addr) (c e : Nat) (hs : Stks H a d.gives) (hs' : Stks H b d.wants) (hl : d.gives.length ≤ 12) (hl' : d.wants.length ≤ 12) :
    FnC Try.prog 25 #[.agg (dcs d a b c e).toArray] O H (fun v H' => (¬ Good d ∧ v = .tuple #[.string (bs []), .int .i64 1] ∨ Good d ∧ v = .tuple #[.string (bs (putB d)), .int .i64 0]) ∧ Ext H H') := by
  refine fn_enter (A := [.agg (dcs d a b c e).toArray]) Try.func25 rfl rfl ?_
  have hX := Ext.refl H
  refine xc_seq ?_
  refine xc_region ?_
  refine xl_heavy rfl rfl rfl (hv_box rfl rfl) ?_
  rintro v0_0 H0_0 ⟨b0_0, rfl, hN0_0⟩
  have gb0_0 := hX.fresh hN0_0
  have hX := hX.trans hN0_0.ext
  have m0_0 := hN0_0.blk
  refine xl_pure rfl rfl rfl (pv_assign (v := .string (bs _)) rfl rfl) ?_
  refine xl_pure rfl rfl rfl (pv_assign (v := .int _ _) rfl rfl) ?_
  refine xl_nil ?_
  refine xthen_normal ?_
  refine xc_seq ?_
  refine xc_seq ?_
  refine xc_region ?_
  refine xl_light rfl rfl rfl (lv_load (v := .agg _) rfl rfl (ld_blk_a m0_0 rfl rfl)) ?_
  refine xl_heavy rfl rfl rfl (hv_call (g := 20) rfl rfl (c20 d a b c e (hs.ext hX) (hs'.ext hX) (by omega) (by omega)) rfl) ?_
  rintro v1_1 H1_1 ⟨e1_1, rfl, hg1_1, hE1_1⟩
  have m0_0 := m0_0.ext hE1_1
  have hX := hX.trans hE1_1
  rcases hg1_1 with ⟨hg1_1, rfl⟩ | ⟨hg1_1, rfl⟩
  · skip
    refine xl_pure rfl rfl rfl (pv_assign (v := .int _ _) rfl rfl) ?_
    refine xl_nil ?_
    refine xthen_normal ?_
    refine xc_seq ?_
    refine xc_region ?_
    refine xl_pure rfl rfl rfl (pv_move (v := .int _ _) rfl rfl) ?_
    refine xl_ndec rfl rfl rfl (pv_neq rfl rfl rfl) (fun h2_1 => ?_) (fun h2_1 => ?_)
    · skip
      refine xl_nil ?_
      refine xthen_normal ?_
      refine xc_cond_f rfl ?_
      refine xc_skip ?_
      refine xthen_normal ?_
      refine xc_seq ?_
      refine xc_region ?_
      refine xl_heavy rfl rfl rfl (hv_alloc rfl rfl) ?_
      rintro v4_0 H4_0 ⟨b4_0, rfl, hN4_0⟩
      have gb4_0 := hX.fresh hN4_0
      have nm0_0_4_0 := m0_0.apart hN4_0
      have m0_0 := m0_0.ext hN4_0.ext
      have hX := hX.trans hN4_0.ext
      have m4_0 := hN4_0.blk
      refine xl_store rfl rfl (hv_store (vs := [.string (bs _)]) rfl rfl rfl (m4_0) rfl (Nat.le_of_ble_eq_true rfl) rfl) ?_
      rintro v4_1 H4_1 ⟨hU4_1, hZ4_1⟩
      have m0_0 := m0_0.off hU4_1.but (nm0_0_4_0)
      have hX := hX.upd hU4_1.but gb4_0
      have m4_0 := hU4_1.blk
      refine xl_nil ?_
      refine xthen_normal ?_
      refine xc_seq ?_
      refine xc_region ?_
      refine xl_pure rfl rfl rfl (pv_makeFunc (a := []) (b := [.pointer _]) rfl rfl rfl) ?_
      refine xl_pure rfl rfl rfl (pv_assign rfl rfl) ?_
      refine xl_nil ?_
      refine xthen_normal ?_
      refine xc_seq ?_
      refine xc_region ?_
      refine xl_pure rfl rfl rfl (pv_move rfl rfl) ?_
      refine xl_pure rfl rfl rfl (pv_fieldAddr rfl rfl) ?_
      refine xl_light rfl rfl rfl (lv_load (v := .int _ _) rfl rfl (ld_blk m0_0 rfl)) ?_
      refine xl_pure rfl rfl rfl (pv_fieldAddr rfl rfl) ?_
      refine xl_light rfl rfl rfl (lv_load (v := .int _ _) rfl rfl (ld_blk m0_0 rfl)) ?_
      refine xl_pure rfl rfl rfl (pv_fieldAddr rfl rfl) ?_
      refine xl_light rfl rfl rfl (lv_load (v := .int _ _) rfl rfl (ld_blk m0_0 rfl)) ?_
      refine xl_pure rfl rfl rfl (pv_fieldAddr rfl rfl) ?_
      refine xl_light rfl rfl rfl (lv_load (v := .int _ _) rfl rfl (ld_blk m0_0 rfl)) ?_
      refine xl_pure rfl rfl rfl (pv_fieldAddr rfl rfl) ?_
      refine xl_light rfl rfl rfl (lv_load (v := .int _ _) rfl rfl (ld_blk m0_0 rfl)) ?_
      refine xl_pure rfl rfl rfl (pv_fieldAddr rfl rfl) ?_
      refine xl_light rfl rfl rfl (lv_load (v := .int _ _) rfl rfl (ld_blk m0_0 rfl)) ?_
      refine xl_pure rfl rfl rfl (pv_fieldAddr rfl rfl) ?_
      refine xl_light rfl rfl rfl (lv_load (v := .int _ _) rfl rfl (ld_blk m0_0 rfl)) ?_
      refine xl_pure rfl rfl rfl (pv_fieldAddr rfl rfl) ?_
      refine xl_light rfl rfl rfl (lv_load (v := .int _ _) rfl rfl (ld_blk m0_0 rfl)) ?_
      refine xl_pure rfl rfl rfl (pv_fieldAddr rfl rfl) ?_
      refine xl_light rfl rfl rfl (lv_load (v := .int _ _) rfl rfl (ld_blk m0_0 rfl)) ?_
      refine xl_pure rfl rfl rfl (pv_fieldAddr rfl rfl) ?_
      refine xl_light rfl rfl rfl (lv_load (v := .int _ _) rfl rfl (ld_blk m0_0 rfl)) ?_
      refine xl_pure rfl rfl rfl (pv_fieldAddr rfl rfl) ?_
      refine xl_light rfl rfl rfl (lv_load (v := .int _ _) rfl rfl (ld_blk m0_0 rfl)) ?_
      refine xl_pure rfl rfl rfl (pv_fieldAddr rfl rfl) ?_
      refine xl_light rfl rfl rfl (lv_load (v := .int _ _) rfl rfl (ld_blk m0_0 rfl)) ?_
      refine xl_pure rfl rfl rfl (pv_fieldAddr rfl rfl) ?_
      refine xl_light rfl rfl rfl (lv_load (v := .int _ _) rfl rfl (ld_blk m0_0 rfl)) ?_
      refine xl_heavy rfl rfl rfl (hv_buildSlice (cs := [.int _ _, .int _ _, .int _ _, .int _ _, .int _ _, .int _ _, .int _ _, .int _ _, .int _ _, .int _ _, .int _ _, .int _ _, .int _ _]) rfl rfl rfl rfl rfl) ?_
      rintro v6_27 H6_27 ⟨b6_27, rfl, hN6_27⟩
      have gb6_27 := hX.fresh hN6_27
      have nm0_0_6_27 := m0_0.apart hN6_27
      have nm4_0_6_27 := m4_0.apart hN6_27
      have m0_0 := m0_0.ext hN6_27.ext
      have m4_0 := m4_0.ext hN6_27.ext
      have hX := hX.trans hN6_27.ext
      have m6_27 := hN6_27.blk
      refine xl_heavy rfl rfl rfl (hv_call (g := 42) rfl rfl (c42 [] (n13 d) _ m6_27 m4_0 nm4_0_6_27.symm (good_13 hg1_1) (by simp [n13])) rfl) ?_
      rintro v6_28 H6_28 hU6_28
      have m0_0 := m0_0.off hU6_28.but (nm0_0_4_0)
      have m6_27 := m6_27.off hU6_28.but (nm4_0_6_27.symm)
      have hX := hX.upd hU6_28.but gb4_0
      have m4_0 := hU6_28.blk
      refine xl_nil ?_
      refine xthen_normal ?_
      refine xc_seq ?_
      refine xc_seq ?_
      refine xc_region ?_
      refine xl_pure rfl rfl rfl (pv_fieldAddr rfl rfl) ?_
      refine xl_light rfl rfl rfl (lv_load (v := .slice _ _ _) rfl rfl (ld_blk m0_0 rfl)) ?_
      refine xl_pure rfl rfl rfl (pv_fieldAddr rfl rfl) ?_
      refine xl_light rfl rfl rfl (lv_load (v := .slice _ _ _) rfl rfl (ld_blk m0_0 rfl)) ?_
      refine xl_heavy rfl rfl rfl (hv_buildSlice (cs := [.slice _ _ _, .slice _ _ _]) rfl rfl rfl rfl rfl) ?_
      rintro v7_4 H7_4 ⟨b7_4, rfl, hN7_4⟩
      have gb7_4 := hX.fresh hN7_4
      have nm0_0_7_4 := m0_0.apart hN7_4
      have nm4_0_7_4 := m4_0.apart hN7_4
      have nm6_27_7_4 := m6_27.apart hN7_4
      have m0_0 := m0_0.ext hN7_4.ext
      have m4_0 := m4_0.ext hN7_4.ext
      have m6_27 := m6_27.ext hN7_4.ext
      have hX := hX.trans hN7_4.ext
      have m7_4 := hN7_4.blk
      refine xl_pure rfl rfl rfl (pv_len_l rfl rfl) ?_
      refine xl_pure rfl rfl rfl (pv_move (v := .int _ _) rfl rfl) ?_
      refine xl_nil ?_
      refine xthen_normal ?_
      refine xc_block ?_
      refine xc_loop (τ := Nat) (fun t => [(1, .pointer (some ⟨b0_0, 0, none⟩)), (5, .pointer (some ⟨b4_0, 0, none⟩)), (6, .func (.func 42) #[] #[.pointer (some ⟨b4_0, 0, none⟩)]), (50, .slice (some ⟨b7_4, 0, none⟩) 2 2), (51, .int .i64 (2 : Nat)), (52, .int .i64 (t : Nat))]) (fun t H' => (t ≤ 2) ∧ (Blk H' b0_0 (dcs d a b c e) 24) ∧ (Blk H' b4_0 [.string (bs (encK (n13 d) ++ encW d t))] 9) ∧ (Blk H' b7_4 [.slice a d.gives.length c, .slice b d.wants.length e] 22) ∧ (Apart b0_0 b4_0) ∧ (Apart b4_0 b7_4) ∧ (Ext H H')) (fun t H' => 2 - t) 0 ?_ ?_ ?_
      · exact ⟨rfl, rfl, rfl, rfl, rfl, rfl, trivial⟩
      · skip
        exact ⟨by omega, m0_0, by simpa [encW] using m4_0, m7_4, nm0_0_4_0, nm4_0_7_4, hX⟩
      · intro σ
        clear hX m0_0 m4_0 m6_27 m7_4
        rintro k Hl8 ⟨hk, m0_0, m4_0, m7_4, nm0_0_4_0, nm4_0_7_4, hX⟩
        replace hk : k ≤ 2 := hk
        replace m0_0 : Blk Hl8 b0_0 (dcs d a b c e) 24 := m0_0
        replace m4_0 : Blk Hl8 b4_0 [.string (bs (encK (n13 d) ++ encW d k))] 9 := m4_0
        replace m7_4 : Blk Hl8 b7_4 [.slice a d.gives.length c, .slice b d.wants.length e] 22 := m7_4
        replace nm0_0_4_0 : Apart b0_0 b4_0 := nm0_0_4_0
        replace nm4_0_7_4 : Apart b4_0 b7_4 := nm4_0_7_4
        replace hX : Ext H Hl8 := hX
        show XC _ _ _ (upds σ [(1, .pointer (some ⟨b0_0, 0, none⟩)), (5, .pointer (some ⟨b4_0, 0, none⟩)), (6, .func (.func 42) #[] #[.pointer (some ⟨b4_0, 0, none⟩)]), (50, .slice (some ⟨b7_4, 0, none⟩) 2 2), (51, .int .i64 (2 : Nat)), (52, .int .i64 (k : Nat))]) _
        refine xc_seq ?_
        refine xc_region ?_
        refine xl_dec rfl rfl rfl (pv_lss rfl rfl rfl) (fun h8_0 => ?_) (fun h8_0 => ?_)
        · skip
          refine xl_nil ?_
          refine xthen_normal ?_
          refine xc_seq ?_
          refine xc_cond_t rfl ?_
          refine xc_skip ?_
          refine xthen_normal ?_
          refine xc_seq ?_
          refine xc_block ?_
          refine xc_seq ?_
          have hgl := gw_len (k := k) hl hl'
          refine xc_region ?_
          refine xl_pure rfl rfl rfl (pv_indexAddr_l rfl rfl rfl (by omega)) ?_
          refine xl_light rfl rfl rfl (lv_load (v := .slice _ _ _) rfl rfl (by exact ld_gw m7_4 (by omega))) ?_
          refine xl_pure rfl rfl rfl (pv_assign (v := .slice _ _ _) rfl rfl) ?_
          refine xl_nil ?_
          refine xthen_normal ?_
          refine xc_seq ?_
          refine xc_region ?_
          refine xl_pure rfl rfl rfl (pv_move rfl rfl) ?_
          refine xl_pure rfl rfl rfl (pv_move (v := .slice _ _ _) rfl rfl) ?_
          refine xl_pure rfl rfl rfl (pv_len_l rfl rfl) ?_
          refine xl_heavy rfl rfl rfl (hv_buildSlice (cs := [.int _ _]) rfl rfl rfl rfl rfl) ?_
          rintro v10_3 H10_3 ⟨b10_3, rfl, hN10_3⟩
          have gb10_3 := hX.fresh hN10_3
          have nm0_0_10_3 := m0_0.apart hN10_3
          have nm4_0_10_3 := m4_0.apart hN10_3
          have nm7_4_10_3 := m7_4.apart hN10_3
          have m0_0 := m0_0.ext hN10_3.ext
          have m4_0 := m4_0.ext hN10_3.ext
          have m7_4 := m7_4.ext hN10_3.ext
          have hX := hX.trans hN10_3.ext
          have m10_3 := hN10_3.blk
          refine xl_heavy rfl rfl rfl (hv_call (g := 42) rfl rfl (c42 (encK (n13 d) ++ encW d k) [((gw d k).length : Int)] _ m10_3 m4_0 nm4_0_10_3.symm (by simp [InU]; omega) (by have h1 := encK_len (n13 d); have h2 := encW_le (k := k) hl hl'; simp [n13] at *; omega)) rfl) ?_
          rintro v10_4 H10_4 hU10_4
          have m0_0 := m0_0.off hU10_4.but (nm0_0_4_0)
          have m7_4 := m7_4.off hU10_4.but (nm4_0_7_4.symm)
          have m10_3 := m10_3.off hU10_4.but (nm4_0_10_3.symm)
          have hX := hX.upd hU10_4.but gb4_0
          have m4_0 := hU10_4.blk
          refine xl_nil ?_
          refine xthen_normal ?_
          refine xc_seq ?_
          refine xc_region ?_
          refine xl_pure rfl rfl rfl (pv_move (v := .slice _ _ _) rfl rfl) ?_
          refine xl_pure rfl rfl rfl (pv_len_l rfl rfl) ?_
          refine xl_pure rfl rfl rfl (pv_move (v := .int _ _) rfl rfl) ?_
          refine xl_nil ?_
          refine xthen_normal ?_
          refine xc_block ?_
          refine xc_loop (τ := Nat) (fun t => [(1, .pointer (some ⟨b0_0, 0, none⟩)), (5, .pointer (some ⟨b4_0, 0, none⟩)), (6, .func (.func 42) #[] #[.pointer (some ⟨b4_0, 0, none⟩)]), (50, .slice (some ⟨b7_4, 0, none⟩) 2 2), (51, .int .i64 (2 : Nat)), (52, .int .i64 (k : Nat)), (61, .slice (if k = 0 then a else b) (List.length (gw d k)) (if k = 0 then c else e)), (62, .int .i64 ((gw d k).length : Nat)), (63, .int .i64 (t : Nat))]) (fun t H' => (t ≤ (gw d k).length) ∧ (Blk H' b0_0 (dcs d a b c e) 24) ∧ (Blk H' b4_0 [.string (bs (encK (n13 d) ++ encW d k ++ (uintB (gw d k).length ++ encK (flat ((gw d k).take t)))))] 9) ∧ (Blk H' b7_4 [.slice a d.gives.length c, .slice b d.wants.length e] 22) ∧ (Apart b0_0 b4_0) ∧ (Apart b4_0 b7_4) ∧ (Ext H H')) (fun t H' => (gw d k).length - t) 0 ?_ ?_ ?_
          · exact ⟨rfl, rfl, rfl, rfl, rfl, rfl, rfl, rfl, rfl, trivial⟩
          · skip
            exact ⟨Nat.zero_le _, m0_0, by simpa [flat, encK] using m4_0, m7_4, nm0_0_4_0, nm4_0_7_4, hX⟩
          · intro σ
            clear hX m0_0 m4_0 m7_4 m10_3
            rintro j Hl12 ⟨hj, m0_0, m4_0, m7_4, nm0_0_4_0, nm4_0_7_4, hX⟩
            replace hj : j ≤ (gw d k).length := hj
            replace m0_0 : Blk Hl12 b0_0 (dcs d a b c e) 24 := m0_0
            replace m4_0 : Blk Hl12 b4_0 [.string (bs (encK (n13 d) ++ encW d k ++ (uintB (gw d k).length ++ encK (flat ((gw d k).take j)))))] 9 := m4_0
            replace m7_4 : Blk Hl12 b7_4 [.slice a d.gives.length c, .slice b d.wants.length e] 22 := m7_4
            replace nm0_0_4_0 : Apart b0_0 b4_0 := nm0_0_4_0
            replace nm4_0_7_4 : Apart b4_0 b7_4 := nm4_0_7_4
            replace hX : Ext H Hl12 := hX
            show XC _ _ _ (upds σ [(1, .pointer (some ⟨b0_0, 0, none⟩)), (5, .pointer (some ⟨b4_0, 0, none⟩)), (6, .func (.func 42) #[] #[.pointer (some ⟨b4_0, 0, none⟩)]), (50, .slice (some ⟨b7_4, 0, none⟩) 2 2), (51, .int .i64 (2 : Nat)), (52, .int .i64 (k : Nat)), (61, .slice (if k = 0 then a else b) (List.length (gw d k)) (if k = 0 then c else e)), (62, .int .i64 ((gw d k).length : Nat)), (63, .int .i64 (j : Nat))]) _
            refine xc_seq ?_
            refine xc_region ?_
            refine xl_dec rfl rfl rfl (pv_lss rfl rfl rfl) (fun h12_0 => ?_) (fun h12_0 => ?_)
            · skip
              refine xl_nil ?_
              refine xthen_normal ?_
              refine xc_seq ?_
              refine xc_cond_t rfl ?_
              refine xc_skip ?_
              refine xthen_normal ?_
              refine xc_seq ?_
              refine xc_block ?_
              refine xc_seq ?_
              obtain ⟨ba, off, hae, hsa⟩ := (gw_stks (k := k) hs hs').resolve_left (by omega)
              have hil : (gw d k).getD j (0, 0) ∈ gw d k := by rw [List.getD_eq_getElem?_getD, List.getElem?_eq_getElem (by omega)]; exact List.getElem_mem _
              have hin : ∀ x ∈ gw d k, InU x.1 ∧ InU x.2 := by unfold gw; split; exact good_g hg1_1; exact good_w hg1_1
              have hpr : ∀ x ∈ [gx (gw d k) j, gq (gw d k) j], InU x := by
                intro x hx; simp only [List.mem_cons, List.not_mem_nil, or_false] at hx; rcases hx with rfl | rfl; exact (hin _ hil).1; exact (hin _ hil).2
              refine xc_region ?_
              refine xl_pure rfl rfl rfl (pv_indexAddr_l rfl (sl_eq hae) rfl (by omega)) ?_
              refine xl_light rfl rfl rfl (lv_load (v := .agg _) rfl rfl (by exact ld_stk (hsa.ext hX) (by omega))) ?_
              refine xl_heavy rfl rfl rfl (hv_alloc rfl rfl) ?_
              rintro v13_2 H13_2 ⟨b13_2, rfl, hN13_2⟩
              have gb13_2 := hX.fresh hN13_2
              have nm0_0_13_2 := m0_0.apart hN13_2
              have nm4_0_13_2 := m4_0.apart hN13_2
              have nm7_4_13_2 := m7_4.apart hN13_2
              have m0_0 := m0_0.ext hN13_2.ext
              have m4_0 := m4_0.ext hN13_2.ext
              have m7_4 := m7_4.ext hN13_2.ext
              have hX := hX.trans hN13_2.ext
              have m13_2 := hN13_2.blk
              refine xl_store rfl rfl (hv_storeA (vs := [.int _ _, .int _ _]) rfl rfl rfl (m13_2) rfl (by rfl) rfl) ?_
              rintro v13_3 H13_3 ⟨hU13_3, hZ13_3⟩
              have m0_0 := m0_0.off hU13_3.but (nm0_0_13_2)
              have m4_0 := m4_0.off hU13_3.but (nm4_0_13_2)
              have m7_4 := m7_4.off hU13_3.but (nm7_4_13_2)
              have hX := hX.upd hU13_3.but gb13_2
              have m13_2 := hU13_3.blk
              refine xl_nil ?_
              refine xthen_normal ?_
              refine xc_region ?_
              refine xl_pure rfl rfl rfl (pv_move rfl rfl) ?_
              refine xl_pure rfl rfl rfl (pv_fieldAddr rfl rfl) ?_
              refine xl_light rfl rfl rfl (lv_load (v := .int _ _) rfl rfl (ld_blk m13_2 rfl)) ?_
              refine xl_pure rfl rfl rfl (pv_fieldAddr rfl rfl) ?_
              refine xl_light rfl rfl rfl (lv_load (v := .int _ _) rfl rfl (ld_blk m13_2 rfl)) ?_
              refine xl_heavy rfl rfl rfl (hv_buildSlice (cs := [.int _ _, .int _ _]) rfl rfl rfl rfl rfl) ?_
              rintro v14_5 H14_5 ⟨b14_5, rfl, hN14_5⟩
              have gb14_5 := hX.fresh hN14_5
              have nm0_0_14_5 := m0_0.apart hN14_5
              have nm4_0_14_5 := m4_0.apart hN14_5
              have nm7_4_14_5 := m7_4.apart hN14_5
              have nm13_2_14_5 := m13_2.apart hN14_5
              have m0_0 := m0_0.ext hN14_5.ext
              have m4_0 := m4_0.ext hN14_5.ext
              have m7_4 := m7_4.ext hN14_5.ext
              have m13_2 := m13_2.ext hN14_5.ext
              have hX := hX.trans hN14_5.ext
              have m14_5 := hN14_5.blk
              refine xl_heavy rfl rfl rfl (hv_call (g := 42) rfl rfl (c42 (encK (n13 d) ++ encW d k ++ (uintB (gw d k).length ++ encK (flat ((gw d k).take j)))) [gx (gw d k) j, gq (gw d k) j] _ m14_5 m4_0 nm4_0_14_5.symm hpr (by have h1 := encK_len (n13 d); have h2 := encW_le (k := k) hl hl'; have h3 := encK_len (flat ((gw d k).take j)); have h4 := uintB_le (gw d k).length; rw [flat_len] at h3; simp [n13] at *; omega)) rfl) ?_
              rintro v14_6 H14_6 hU14_6
              have m0_0 := m0_0.off hU14_6.but (nm0_0_4_0)
              have m7_4 := m7_4.off hU14_6.but (nm4_0_7_4.symm)
              have m13_2 := m13_2.off hU14_6.but (nm4_0_13_2.symm)
              have m14_5 := m14_5.off hU14_6.but (nm4_0_14_5.symm)
              have hX := hX.upd hU14_6.but gb4_0
              have m4_0 := hU14_6.blk
              refine xl_nil ?_
              refine xblock_normal ?_
              refine xthen_normal ?_
              refine xc_region ?_
              refine xl_pure rfl rfl rfl (pv_add rfl rfl rfl (fit_i64 (by omega))) ?_
              refine xl_pure rfl rfl rfl (pv_move (v := .int _ _) rfl rfl) ?_
              refine xl_nil ?_
              refine xthen_normal ?_
              exact ⟨j + 1, ⟨rfl, rfl, rfl, rfl, rfl, rfl, rfl, rfl, rfl, trivial⟩, ⟨by (try simp only); omega, m0_0, by rw [flat_take (by omega), encK_app]; simpa using m4_0, m7_4, nm0_0_4_0, nm4_0_7_4, hX⟩, by (try simp only); omega⟩
            · skip
              refine xl_nil ?_
              refine xthen_normal ?_
              refine xc_seq ?_
              refine xc_cond_f rfl ?_
              refine xc_exit ?_
              refine xthen_exit ?_
              refine xthen_exit ?_
              refine xblock_same ?_
              refine xblock_normal ?_
              refine xthen_normal ?_
              refine xc_region ?_
              refine xl_pure rfl rfl rfl (pv_add rfl rfl rfl (fit_i64 (by omega))) ?_
              refine xl_pure rfl rfl rfl (pv_move (v := .int _ _) rfl rfl) ?_
              refine xl_nil ?_
              refine xthen_normal ?_
              exact ⟨k + 1, ⟨rfl, rfl, rfl, rfl, rfl, rfl, trivial⟩, ⟨by (try simp only); omega, m0_0, by rw [show (gw d k).take j = gw d k from List.take_of_length_le (by omega)] at m4_0; simpa [encW, encL] using m4_0, m7_4, nm0_0_4_0, nm4_0_7_4, hX⟩, by (try simp only); omega⟩
        · skip
          refine xl_nil ?_
          refine xthen_normal ?_
          refine xc_seq ?_
          refine xc_cond_f rfl ?_
          refine xc_exit ?_
          refine xthen_exit ?_
          refine xthen_exit ?_
          refine xblock_same ?_
          refine xthen_normal ?_
          refine xc_seq ?_
          refine xc_region ?_
          refine xl_pure rfl rfl rfl (pv_move rfl rfl) ?_
          refine xl_pure rfl rfl rfl (pv_fieldAddr rfl rfl) ?_
          refine xl_light rfl rfl rfl (lv_load (v := .int _ _) rfl rfl (ld_blk m0_0 rfl)) ?_
          refine xl_pure rfl rfl rfl (pv_fieldAddr rfl rfl) ?_
          refine xl_light rfl rfl rfl (lv_load (v := .int _ _) rfl rfl (ld_blk m0_0 rfl)) ?_
          refine xl_pure rfl rfl rfl (pv_fieldAddr rfl rfl) ?_
          refine xl_light rfl rfl rfl (lv_load (v := .int _ _) rfl rfl (ld_blk m0_0 rfl)) ?_
          refine xl_pure rfl rfl rfl (pv_fieldAddr rfl rfl) ?_
          refine xl_light rfl rfl rfl (lv_load (v := .int _ _) rfl rfl (ld_blk m0_0 rfl)) ?_
          refine xl_heavy rfl rfl rfl (hv_buildSlice (cs := [.int _ _, .int _ _, .int _ _, .int _ _]) rfl rfl rfl rfl rfl) ?_
          rintro v17_9 H17_9 ⟨b17_9, rfl, hN17_9⟩
          have gb17_9 := hX.fresh hN17_9
          have nm0_0_17_9 := m0_0.apart hN17_9
          have nm4_0_17_9 := m4_0.apart hN17_9
          have nm7_4_17_9 := m7_4.apart hN17_9
          have m0_0 := m0_0.ext hN17_9.ext
          have m4_0 := m4_0.ext hN17_9.ext
          have m7_4 := m7_4.ext hN17_9.ext
          have hX := hX.trans hN17_9.ext
          have m17_9 := hN17_9.blk
          refine xl_heavy rfl rfl rfl (hv_call (g := 42) rfl rfl (c42 (encK (n13 d) ++ encW d k) (n4 d) _ m17_9 m4_0 nm4_0_17_9.symm (good_4 hg1_1) (by have h1 := encK_len (n13 d); have h2 := encW_le (k := k) hl hl'; simp [n13, n4] at *; omega)) rfl) ?_
          rintro v17_10 H17_10 hU17_10
          have m0_0 := m0_0.off hU17_10.but (nm0_0_4_0)
          have m7_4 := m7_4.off hU17_10.but (nm4_0_7_4.symm)
          have m17_9 := m17_9.off hU17_10.but (nm4_0_17_9.symm)
          have hX := hX.upd hU17_10.but gb4_0
          have m4_0 := hU17_10.blk
          refine xl_nil ?_
          refine xthen_normal ?_
          refine xc_seq ?_
          refine xc_region ?_
          refine xl_light rfl rfl rfl (lv_load (v := .string (bs _)) rfl rfl (ld_blk m4_0 rfl)) ?_
          refine xl_pure rfl rfl rfl (pv_assign (v := .string (bs _)) rfl rfl) ?_
          refine xl_pure rfl rfl rfl (pv_assign (v := .int _ _) rfl rfl) ?_
          refine xl_nil ?_
          refine xthen_normal ?_
          refine xc_ret ?_
          refine fin_ret (res2 (v := .string (bs _)) (x := .int _ _) rfl rfl rfl) ?_
          exact ⟨.inr ⟨hg1_1, by rw [← put_end (d := d) (k := k) (by omega) hk]⟩, hX⟩
    · exact absurd (by decide) h2_1
  · skip
    refine xl_pure rfl rfl rfl (pv_assign (v := .int _ _) rfl rfl) ?_
    refine xl_nil ?_
    refine xthen_normal ?_
    refine xc_seq ?_
    refine xc_region ?_
    refine xl_pure rfl rfl rfl (pv_move (v := .int _ _) rfl rfl) ?_
    refine xl_ndec rfl rfl rfl (pv_neq rfl rfl rfl) (fun h2_1 => ?_) (fun h2_1 => ?_)
    · exact absurd h2_1 (by decide)
    · skip
      refine xl_nil ?_
      refine xthen_normal ?_
      refine xc_cond_t rfl ?_
      refine xc_seq ?_
      refine xc_region ?_
      refine xl_pure rfl rfl rfl (pv_move (v := .int _ _) rfl rfl) ?_
      refine xl_pure rfl rfl rfl (pv_assign (v := .string (bs _)) rfl rfl) ?_
      refine xl_pure rfl rfl rfl (pv_assign (v := .int _ _) rfl rfl) ?_
      refine xl_nil ?_
      refine xthen_normal ?_
      refine xc_ret ?_
      refine xthen_ret ?_
      refine fin_ret (res2 (v := .string (bs _)) (x := .int _ _) rfl rfl rfl) ?_
      exact ⟨.inl ⟨hg1_1, rfl⟩, hX⟩

theorem c26 {O : Outer} {H : Heap} (d : D) (a b : Option Addr) (c e : Nat) (hs : Stks H a d.gives) (hs' : Stks H b d.wants) (hl : d.gives.length ≤ 12) (hl' : d.wants.length ≤ 12) :
    FnC Try.prog 26 #[.agg (dcs d a b c e).toArray] O H (fun v H' => (¬ Good d ∧ v = .tuple #[.string (bs []), .int .i64 1] ∨ Good d ∧ v = .tuple #[.string (bs (putB d)), .int .i64 0]) ∧ Ext H H') := by
  refine fn_enter (A := [.agg (dcs d a b c e).toArray]) Try.func26 rfl rfl ?_
  have hX := Ext.refl H
  refine xc_seq ?_
  refine xc_region ?_
  refine xl_heavy rfl rfl rfl (hv_box rfl rfl) ?_
  rintro v0_0 H0_0 ⟨b0_0, rfl, hN0_0⟩
  have gb0_0 := hX.fresh hN0_0
  have hX := hX.trans hN0_0.ext
  have m0_0 := hN0_0.blk
  refine xl_pure rfl rfl rfl (pv_assign (v := .string (bs _)) rfl rfl) ?_
  refine xl_pure rfl rfl rfl (pv_assign (v := .int _ _) rfl rfl) ?_
  refine xl_nil ?_
  refine xthen_normal ?_
  refine xc_seq ?_
  refine xc_seq ?_
  refine xc_region ?_
  refine xl_light rfl rfl rfl (lv_load (v := .agg _) rfl rfl (ld_blk_a m0_0 rfl rfl)) ?_
  refine xl_heavy rfl rfl rfl (hv_call (g := 21) rfl rfl (c21 d a b c e (hs.ext hX) (hs'.ext hX) (by omega) (by omega)) rfl) ?_
  rintro v1_1 H1_1 ⟨e1_1, rfl, hg1_1, hE1_1⟩
  have m0_0 := m0_0.ext hE1_1
  have hX := hX.trans hE1_1
  rcases hg1_1 with ⟨hg1_1, rfl⟩ | ⟨hg1_1, rfl⟩
  · skip
    refine xl_ndec rfl rfl rfl (pv_neq rfl rfl rfl) (fun h1_2 => ?_) (fun h1_2 => ?_)
    · skip
      refine xl_nil ?_
      refine xthen_normal ?_
      refine xc_cond_f rfl ?_
      refine xc_skip ?_
      refine xthen_normal ?_
      refine xc_seq ?_
      refine xp_start rfl (by repeat (first | with_reducible exact np_fin | with_reducible refine np_then ?_ | with_reducible refine np_block ?_)) (by kernel_rfl) ?_
      refine xp_pure (i := 0) rfl (by kernel_rfl) (by kernel_rfl) rfl rfl rfl (pv_fieldAddr rfl rfl) ?_
      refine xp_light (i := 1) rfl (by kernel_rfl) (by kernel_rfl) rfl rfl rfl (lv_load (v := .int _ _) rfl rfl (ld_blk m0_0 rfl)) ?_
      refine xp_pure (i := 2) rfl (by kernel_rfl) (by kernel_rfl) rfl rfl rfl (pv_fieldAddr rfl rfl) ?_
      refine xp_light (i := 3) rfl (by kernel_rfl) (by kernel_rfl) rfl rfl rfl (lv_load (v := .int _ _) rfl rfl (ld_blk m0_0 rfl)) ?_
      refine xp_pure (i := 4) rfl (by kernel_rfl) (by kernel_rfl) rfl rfl rfl (pv_fieldAddr rfl rfl) ?_
      refine xp_light (i := 5) rfl (by kernel_rfl) (by kernel_rfl) rfl rfl rfl (lv_load (v := .int _ _) rfl rfl (ld_blk m0_0 rfl)) ?_
      refine xp_pure (i := 6) rfl (by kernel_rfl) (by kernel_rfl) rfl rfl rfl (pv_fieldAddr rfl rfl) ?_
      refine xp_light (i := 7) rfl (by kernel_rfl) (by kernel_rfl) rfl rfl rfl (lv_load (v := .int _ _) rfl rfl (ld_blk m0_0 rfl)) ?_
      refine xp_pure (i := 8) rfl (by kernel_rfl) (by kernel_rfl) rfl rfl rfl (pv_fieldAddr rfl rfl) ?_
      refine xp_light (i := 9) rfl (by kernel_rfl) (by kernel_rfl) rfl rfl rfl (lv_load (v := .int _ _) rfl rfl (ld_blk m0_0 rfl)) ?_
      refine xp_pure (i := 10) rfl (by kernel_rfl) (by kernel_rfl) rfl rfl rfl (pv_fieldAddr rfl rfl) ?_
      refine xp_light (i := 11) rfl (by kernel_rfl) (by kernel_rfl) rfl rfl rfl (lv_load (v := .int _ _) rfl rfl (ld_blk m0_0 rfl)) ?_
      refine xp_pure (i := 12) rfl (by kernel_rfl) (by kernel_rfl) rfl rfl rfl (pv_fieldAddr rfl rfl) ?_
      refine xp_light (i := 13) rfl (by kernel_rfl) (by kernel_rfl) rfl rfl rfl (lv_load (v := .int _ _) rfl rfl (ld_blk m0_0 rfl)) ?_
      refine xp_pure (i := 14) rfl (by kernel_rfl) (by kernel_rfl) rfl rfl rfl (pv_fieldAddr rfl rfl) ?_
      refine xp_light (i := 15) rfl (by kernel_rfl) (by kernel_rfl) rfl rfl rfl (lv_load (v := .int _ _) rfl rfl (ld_blk m0_0 rfl)) ?_
      refine xp_pure (i := 16) rfl (by kernel_rfl) (by kernel_rfl) rfl rfl rfl (pv_fieldAddr rfl rfl) ?_
      refine xp_light (i := 17) rfl (by kernel_rfl) (by kernel_rfl) rfl rfl rfl (lv_load (v := .int _ _) rfl rfl (ld_blk m0_0 rfl)) ?_
      refine xp_pure (i := 18) rfl (by kernel_rfl) (by kernel_rfl) rfl rfl rfl (pv_fieldAddr rfl rfl) ?_
      refine xp_light (i := 19) rfl (by kernel_rfl) (by kernel_rfl) rfl rfl rfl (lv_load (v := .int _ _) rfl rfl (ld_blk m0_0 rfl)) ?_
      refine xp_pure (i := 20) rfl (by kernel_rfl) (by kernel_rfl) rfl rfl rfl (pv_fieldAddr rfl rfl) ?_
      refine xp_light (i := 21) rfl (by kernel_rfl) (by kernel_rfl) rfl rfl rfl (lv_load (v := .int _ _) rfl rfl (ld_blk m0_0 rfl)) ?_
      refine xp_pure (i := 22) rfl (by kernel_rfl) (by kernel_rfl) rfl rfl rfl (pv_fieldAddr rfl rfl) ?_
      refine xp_light (i := 23) rfl (by kernel_rfl) (by kernel_rfl) rfl rfl rfl (lv_load (v := .int _ _) rfl rfl (ld_blk m0_0 rfl)) ?_
      refine xp_pure (i := 24) rfl (by kernel_rfl) (by kernel_rfl) rfl rfl rfl (pv_fieldAddr rfl rfl) ?_
      refine xp_light (i := 25) rfl (by kernel_rfl) (by kernel_rfl) rfl rfl rfl (lv_load (v := .int _ _) rfl rfl (ld_blk m0_0 rfl)) ?_
      refine xp_pure (i := 28) rfl (by kernel_rfl) (by kernel_rfl) rfl rfl rfl (pv_fieldAddr rfl rfl) ?_
      refine xp_light (i := 29) rfl (by kernel_rfl) (by kernel_rfl) rfl rfl rfl (lv_load (v := .slice _ _ _) rfl rfl (ld_blk m0_0 rfl)) ?_
      refine xp_pure (i := 32) rfl (by kernel_rfl) (by kernel_rfl) rfl rfl rfl (pv_fieldAddr rfl rfl) ?_
      refine xp_light (i := 33) rfl (by kernel_rfl) (by kernel_rfl) rfl rfl rfl (lv_load (v := .slice _ _ _) rfl rfl (ld_blk m0_0 rfl)) ?_
      refine xp_pure (i := 36) rfl (by kernel_rfl) (by kernel_rfl) rfl rfl rfl (pv_fieldAddr rfl rfl) ?_
      refine xp_light (i := 37) rfl (by kernel_rfl) (by kernel_rfl) rfl rfl rfl (lv_load (v := .int _ _) rfl rfl (ld_blk m0_0 rfl)) ?_
      refine xp_pure (i := 38) rfl (by kernel_rfl) (by kernel_rfl) rfl rfl rfl (pv_fieldAddr rfl rfl) ?_
      refine xp_light (i := 39) rfl (by kernel_rfl) (by kernel_rfl) rfl rfl rfl (lv_load (v := .int _ _) rfl rfl (ld_blk m0_0 rfl)) ?_
      refine xp_pure (i := 40) rfl (by kernel_rfl) (by kernel_rfl) rfl rfl rfl (pv_fieldAddr rfl rfl) ?_
      refine xp_light (i := 41) rfl (by kernel_rfl) (by kernel_rfl) rfl rfl rfl (lv_load (v := .int _ _) rfl rfl (ld_blk m0_0 rfl)) ?_
      refine xp_pure (i := 42) rfl (by kernel_rfl) (by kernel_rfl) rfl rfl rfl (pv_fieldAddr rfl rfl) ?_
      refine xp_light (i := 43) rfl (by kernel_rfl) (by kernel_rfl) rfl rfl rfl (lv_load (v := .int _ _) rfl rfl (ld_blk m0_0 rfl)) ?_
      refine xp_heavy2 (i := 26) (j := 44) (by kernel_rfl) ?_ ?_
      · skip
        refine xph_val rfl rfl rfl rfl (hv_buildSlice (cs := [.int _ _, .int _ _, .int _ _, .int _ _, .int _ _, .int _ _, .int _ _, .int _ _, .int _ _, .int _ _, .int _ _, .int _ _, .int _ _]) rfl rfl rfl rfl rfl) (pk (by kernel_rfl) (pk (by kernel_rfl) (pk (by kernel_rfl) (pk (by kernel_rfl) (pk (by kernel_rfl) (pk (by kernel_rfl) (pd (by kernel_rfl) (pd (by kernel_rfl) (pd (by kernel_rfl) (pd (by kernel_rfl) (pd (by kernel_rfl) (pd (by kernel_rfl) (pd (by kernel_rfl) (pd (by kernel_rfl) (pd (by kernel_rfl) (pd (by kernel_rfl) (pd (by kernel_rfl) (pd (by kernel_rfl) (pd (by kernel_rfl) pn))))))))))))))))))) ?_
        rintro v3_26 H3_26 ⟨b3_26, rfl, hN3_26⟩
        have gb3_26 := hX.fresh hN3_26
        have nm0_0_3_26 := m0_0.apart hN3_26
        have m0_0 := m0_0.ext hN3_26.ext
        have hX := hX.trans hN3_26.ext
        have m3_26 := hN3_26.blk
        refine ⟨(okc (lv_load (v := .int _ _) rfl rfl (ld_blk m0_0 rfl)) (okc (lv_load (v := .int _ _) rfl rfl (ld_blk m0_0 rfl)) (okc (lv_load (v := .int _ _) rfl rfl (ld_blk m0_0 rfl)) (okc (lv_load (v := .int _ _) rfl rfl (ld_blk m0_0 rfl)) (okc (lv_load (v := .slice _ _ _) rfl rfl (ld_blk m0_0 rfl)) (okc (lv_load (v := .slice _ _ _) rfl rfl (ld_blk m0_0 rfl)) okn)))))), ?_⟩
        refine xp_heavy2 (i := 27) (j := 44) (by kernel_rfl) ?_ ?_
        · skip
          refine xph_val rfl rfl rfl rfl (hv_call (g := 44) rfl rfl (c44 (n13 d) _ m3_26 (good_13 hg1_1) (by simp [n13])) rfl) (pk (by kernel_rfl) (pk (by kernel_rfl) (pk (by kernel_rfl) (pk (by kernel_rfl) (pk (by kernel_rfl) (pk (by kernel_rfl) pn)))))) ?_
          rintro v3_27 H3_27 ⟨rfl, hE3_27⟩
          have m0_0 := m0_0.ext hE3_27
          have m3_26 := m3_26.ext hE3_27
          have hX := hX.trans hE3_27
          refine ⟨(okc (lv_load (v := .int _ _) rfl rfl (ld_blk m0_0 rfl)) (okc (lv_load (v := .int _ _) rfl rfl (ld_blk m0_0 rfl)) (okc (lv_load (v := .int _ _) rfl rfl (ld_blk m0_0 rfl)) (okc (lv_load (v := .int _ _) rfl rfl (ld_blk m0_0 rfl)) (okc (lv_load (v := .slice _ _ _) rfl rfl (ld_blk m0_0 rfl)) (okc (lv_load (v := .slice _ _ _) rfl rfl (ld_blk m0_0 rfl)) okn)))))), ?_⟩
          refine xp_heavy2 (i := 30) (j := 44) (by kernel_rfl) ?_ ?_
          · skip
            refine xph_val rfl rfl rfl rfl (hv_call (g := 45) rfl rfl (c45 d.gives _ _ (hs.ext hX) (good_g hg1_1) (by omega)) rfl) (pk (by kernel_rfl) (pk (by kernel_rfl) (pk (by kernel_rfl) (pk (by kernel_rfl) (pk (by kernel_rfl) (pd (by kernel_rfl) pn)))))) ?_
            rintro v3_30 H3_30 ⟨rfl, hE3_30⟩
            have m0_0 := m0_0.ext hE3_30
            have m3_26 := m3_26.ext hE3_30
            have hX := hX.trans hE3_30
            refine ⟨(okc (lv_load (v := .int _ _) rfl rfl (ld_blk m0_0 rfl)) (okc (lv_load (v := .int _ _) rfl rfl (ld_blk m0_0 rfl)) (okc (lv_load (v := .int _ _) rfl rfl (ld_blk m0_0 rfl)) (okc (lv_load (v := .int _ _) rfl rfl (ld_blk m0_0 rfl)) (okc (lv_load (v := .slice _ _ _) rfl rfl (ld_blk m0_0 rfl)) okn))))), ?_⟩
            refine xp_pure (i := 31) rfl (by kernel_rfl) (by kernel_rfl) rfl rfl rfl (pv_add_s rfl rfl rfl (by have h1 := encK_len (n13 d); have h2 := encL_len d.gives; have h3 := encL_len d.wants; have h4 := encK_len (n4 d); simp [n13, n4] at *; omega)) ?_
            refine xp_heavy2 (i := 34) (j := 44) (by kernel_rfl) ?_ ?_
            · skip
              refine xph_val rfl rfl rfl rfl (hv_call (g := 45) rfl rfl (c45 d.wants _ _ (hs'.ext hX) (good_w hg1_1) (by omega)) rfl) (pk (by kernel_rfl) (pk (by kernel_rfl) (pk (by kernel_rfl) (pk (by kernel_rfl) (pd (by kernel_rfl) pn))))) ?_
              rintro v3_34 H3_34 ⟨rfl, hE3_34⟩
              have m0_0 := m0_0.ext hE3_34
              have m3_26 := m3_26.ext hE3_34
              have hX := hX.trans hE3_34
              refine ⟨(okc (lv_load (v := .int _ _) rfl rfl (ld_blk m0_0 rfl)) (okc (lv_load (v := .int _ _) rfl rfl (ld_blk m0_0 rfl)) (okc (lv_load (v := .int _ _) rfl rfl (ld_blk m0_0 rfl)) (okc (lv_load (v := .int _ _) rfl rfl (ld_blk m0_0 rfl)) okn)))), ?_⟩
              refine xp_pure (i := 35) rfl (by kernel_rfl) (by kernel_rfl) rfl rfl rfl (pv_add_s rfl rfl rfl (by have h1 := encK_len (n13 d); have h2 := encL_len d.gives; have h3 := encL_len d.wants; have h4 := encK_len (n4 d); simp [n13, n4] at *; omega)) ?_
              refine xp_heavy (i := 44) (by kernel_rfl) ?_
              refine xph_val rfl rfl rfl rfl (hv_buildSlice (cs := [.int _ _, .int _ _, .int _ _, .int _ _]) rfl rfl rfl rfl rfl) (pd (by kernel_rfl) (pd (by kernel_rfl) (pd (by kernel_rfl) (pd (by kernel_rfl) pn)))) ?_
              rintro v3_44 H3_44 ⟨b3_44, rfl, hN3_44⟩
              have gb3_44 := hX.fresh hN3_44
              have nm0_0_3_44 := m0_0.apart hN3_44
              have nm3_26_3_44 := m3_26.apart hN3_44
              have m0_0 := m0_0.ext hN3_44.ext
              have m3_26 := m3_26.ext hN3_44.ext
              have hX := hX.trans hN3_44.ext
              have m3_44 := hN3_44.blk
              refine ⟨okn, ?_⟩
              refine xp_heavy (i := 45) (by kernel_rfl) ?_
              refine xph_val rfl rfl rfl rfl (hv_call (g := 44) rfl rfl (c44 (n4 d) _ m3_44 (good_4 hg1_1) (by simp [n4])) rfl) pn ?_
              rintro v3_45 H3_45 ⟨rfl, hE3_45⟩
              have m0_0 := m0_0.ext hE3_45
              have m3_26 := m3_26.ext hE3_45
              have m3_44 := m3_44.ext hE3_45
              have hX := hX.trans hE3_45
              refine ⟨okn, ?_⟩
              refine xp_pure (i := 46) rfl (by kernel_rfl) (by kernel_rfl) rfl rfl rfl (pv_add_s rfl rfl rfl (by have h1 := encK_len (n13 d); have h2 := encL_len d.gives; have h3 := encL_len d.wants; have h4 := encK_len (n4 d); simp [n13, n4] at *; omega)) ?_
              refine xp_pure (i := 47) rfl (by kernel_rfl) (by kernel_rfl) rfl rfl rfl (pv_assign (v := .string (bs _)) rfl rfl) ?_
              refine xp_pure (i := 48) rfl (by kernel_rfl) (by kernel_rfl) rfl rfl rfl (pv_assign (v := .int _ _) rfl rfl) ?_
              refine xp_done (by kernel_rfl) ?_
              refine xthen_normal ?_
              refine xc_ret ?_
              refine fin_ret (res2 (v := .string (bs _)) (x := .int _ _) rfl rfl rfl) ?_
              exact ⟨.inr ⟨hg1_1, rfl⟩, hX⟩
            · skip
              refine xph_val rfl rfl rfl rfl (hv_buildSlice (cs := [.int _ _, .int _ _, .int _ _, .int _ _]) rfl rfl rfl rfl rfl) (pd (by kernel_rfl) (pd (by kernel_rfl) (pd (by kernel_rfl) (pd (by kernel_rfl) (pk (by kernel_rfl) pn))))) ?_
              rintro v3_44 H3_44 ⟨b3_44, rfl, hN3_44⟩
              have gb3_44 := hX.fresh hN3_44
              have nm0_0_3_44 := m0_0.apart hN3_44
              have nm3_26_3_44 := m3_26.apart hN3_44
              have m0_0 := m0_0.ext hN3_44.ext
              have m3_26 := m3_26.ext hN3_44.ext
              have hX := hX.trans hN3_44.ext
              have m3_44 := hN3_44.blk
              refine ⟨(okc (lv_load (v := .slice _ _ _) rfl rfl (ld_blk m0_0 rfl)) okn), ?_⟩
              refine xp_heavy (i := 34) (by kernel_rfl) ?_
              refine xph_val rfl rfl rfl rfl (hv_call (g := 45) rfl rfl (c45 d.wants _ _ (hs'.ext hX) (good_w hg1_1) (by omega)) rfl) (pd (by kernel_rfl) pn) ?_
              rintro v3_34 H3_34 ⟨rfl, hE3_34⟩
              have m0_0 := m0_0.ext hE3_34
              have m3_26 := m3_26.ext hE3_34
              have m3_44 := m3_44.ext hE3_34
              have hX := hX.trans hE3_34
              refine ⟨okn, ?_⟩
              refine xp_pure (i := 35) rfl (by kernel_rfl) (by kernel_rfl) rfl rfl rfl (pv_add_s rfl rfl rfl (by have h1 := encK_len (n13 d); have h2 := encL_len d.gives; have h3 := encL_len d.wants; have h4 := encK_len (n4 d); simp [n13, n4] at *; omega)) ?_
              refine xp_heavy (i := 45) (by kernel_rfl) ?_
              refine xph_val rfl rfl rfl rfl (hv_call (g := 44) rfl rfl (c44 (n4 d) _ m3_44 (good_4 hg1_1) (by simp [n4])) rfl) pn ?_
              rintro v3_45 H3_45 ⟨rfl, hE3_45⟩
              have m0_0 := m0_0.ext hE3_45
              have m3_26 := m3_26.ext hE3_45
              have m3_44 := m3_44.ext hE3_45
              have hX := hX.trans hE3_45
              refine ⟨okn, ?_⟩
              refine xp_pure (i := 46) rfl (by kernel_rfl) (by kernel_rfl) rfl rfl rfl (pv_add_s rfl rfl rfl (by have h1 := encK_len (n13 d); have h2 := encL_len d.gives; have h3 := encL_len d.wants; have h4 := encK_len (n4 d); simp [n13, n4] at *; omega)) ?_
              refine xp_pure (i := 47) rfl (by kernel_rfl) (by kernel_rfl) rfl rfl rfl (pv_assign (v := .string (bs _)) rfl rfl) ?_
              refine xp_pure (i := 48) rfl (by kernel_rfl) (by kernel_rfl) rfl rfl rfl (pv_assign (v := .int _ _) rfl rfl) ?_
              refine xp_done (by kernel_rfl) ?_
              refine xthen_normal ?_
              refine xc_ret ?_
              refine fin_ret (res2 (v := .string (bs _)) (x := .int _ _) rfl rfl rfl) ?_
              exact ⟨.inr ⟨hg1_1, rfl⟩, hX⟩
          · skip
            refine xph_val rfl rfl rfl rfl (hv_buildSlice (cs := [.int _ _, .int _ _, .int _ _, .int _ _]) rfl rfl rfl rfl rfl) (pd (by kernel_rfl) (pd (by kernel_rfl) (pd (by kernel_rfl) (pd (by kernel_rfl) (pk (by kernel_rfl) (pk (by kernel_rfl) pn)))))) ?_
            rintro v3_44 H3_44 ⟨b3_44, rfl, hN3_44⟩
            have gb3_44 := hX.fresh hN3_44
            have nm0_0_3_44 := m0_0.apart hN3_44
            have nm3_26_3_44 := m3_26.apart hN3_44
            have m0_0 := m0_0.ext hN3_44.ext
            have m3_26 := m3_26.ext hN3_44.ext
            have hX := hX.trans hN3_44.ext
            have m3_44 := hN3_44.blk
            refine ⟨(okc (lv_load (v := .slice _ _ _) rfl rfl (ld_blk m0_0 rfl)) (okc (lv_load (v := .slice _ _ _) rfl rfl (ld_blk m0_0 rfl)) okn)), ?_⟩
            refine xp_heavy (i := 30) (by kernel_rfl) ?_
            refine xph_val rfl rfl rfl rfl (hv_call (g := 45) rfl rfl (c45 d.gives _ _ (hs.ext hX) (good_g hg1_1) (by omega)) rfl) (pk (by kernel_rfl) (pd (by kernel_rfl) pn)) ?_
            rintro v3_30 H3_30 ⟨rfl, hE3_30⟩
            have m0_0 := m0_0.ext hE3_30
            have m3_26 := m3_26.ext hE3_30
            have m3_44 := m3_44.ext hE3_30
            have hX := hX.trans hE3_30
            refine ⟨(okc (lv_load (v := .slice _ _ _) rfl rfl (ld_blk m0_0 rfl)) okn), ?_⟩
            refine xp_pure (i := 31) rfl (by kernel_rfl) (by kernel_rfl) rfl rfl rfl (pv_add_s rfl rfl rfl (by have h1 := encK_len (n13 d); have h2 := encL_len d.gives; have h3 := encL_len d.wants; have h4 := encK_len (n4 d); simp [n13, n4] at *; omega)) ?_
            refine xp_heavy (i := 34) (by kernel_rfl) ?_
            refine xph_val rfl rfl rfl rfl (hv_call (g := 45) rfl rfl (c45 d.wants _ _ (hs'.ext hX) (good_w hg1_1) (by omega)) rfl) (pd (by kernel_rfl) pn) ?_
            rintro v3_34 H3_34 ⟨rfl, hE3_34⟩
            have m0_0 := m0_0.ext hE3_34
            have m3_26 := m3_26.ext hE3_34
            have m3_44 := m3_44.ext hE3_34
            have hX := hX.trans hE3_34
            refine ⟨okn, ?_⟩
            refine xp_pure (i := 35) rfl (by kernel_rfl) (by kernel_rfl) rfl rfl rfl (pv_add_s rfl rfl rfl (by have h1 := encK_len (n13 d); have h2 := encL_len d.gives; have h3 := encL_len d.wants; have h4 := encK_len (n4 d); simp [n13, n4] at *; omega)) ?_
            refine xp_heavy (i := 45) (by kernel_rfl) ?_
            refine xph_val rfl rfl rfl rfl (hv_call (g := 44) rfl rfl (c44 (n4 d) _ m3_44 (good_4 hg1_1) (by simp [n4])) rfl) pn ?_
            rintro v3_45 H3_45 ⟨rfl, hE3_45⟩
            have m0_0 := m0_0.ext hE3_45
            have m3_26 := m3_26.ext hE3_45
            have m3_44 := m3_44.ext hE3_45
            have hX := hX.trans hE3_45
            refine ⟨okn, ?_⟩
            refine xp_pure (i := 46) rfl (by kernel_rfl) (by kernel_rfl) rfl rfl rfl (pv_add_s rfl rfl rfl (by have h1 := encK_len (n13 d); have h2 := encL_len d.gives; have h3 := encL_len d.wants; have h4 := encK_len (n4 d); simp [n13, n4] at *; omega)) ?_
            refine xp_pure (i := 47) rfl (by kernel_rfl) (by kernel_rfl) rfl rfl rfl (pv_assign (v := .string (bs _)) rfl rfl) ?_
            refine xp_pure (i := 48) rfl (by kernel_rfl) (by kernel_rfl) rfl rfl rfl (pv_assign (v := .int _ _) rfl rfl) ?_
            refine xp_done (by kernel_rfl) ?_
            refine xthen_normal ?_
            refine xc_ret ?_
            refine fin_ret (res2 (v := .string (bs _)) (x := .int _ _) rfl rfl rfl) ?_
            exact ⟨.inr ⟨hg1_1, rfl⟩, hX⟩
        · skip
          refine xph_val rfl rfl rfl rfl (hv_buildSlice (cs := [.int _ _, .int _ _, .int _ _, .int _ _]) rfl rfl rfl rfl rfl) (pd (by kernel_rfl) (pd (by kernel_rfl) (pd (by kernel_rfl) (pd (by kernel_rfl) (pk (by kernel_rfl) (pk (by kernel_rfl) pn)))))) ?_
          rintro v3_44 H3_44 ⟨b3_44, rfl, hN3_44⟩
          have gb3_44 := hX.fresh hN3_44
          have nm0_0_3_44 := m0_0.apart hN3_44
          have nm3_26_3_44 := m3_26.apart hN3_44
          have m0_0 := m0_0.ext hN3_44.ext
          have m3_26 := m3_26.ext hN3_44.ext
          have hX := hX.trans hN3_44.ext
          have m3_44 := hN3_44.blk
          refine ⟨(okc (lv_load (v := .slice _ _ _) rfl rfl (ld_blk m0_0 rfl)) (okc (lv_load (v := .slice _ _ _) rfl rfl (ld_blk m0_0 rfl)) okn)), ?_⟩
          refine xp_heavy (i := 27) (by kernel_rfl) ?_
          refine xph_val rfl rfl rfl rfl (hv_call (g := 44) rfl rfl (c44 (n13 d) _ m3_26 (good_13 hg1_1) (by simp [n13])) rfl) (pk (by kernel_rfl) (pk (by kernel_rfl) pn)) ?_
          rintro v3_27 H3_27 ⟨rfl, hE3_27⟩
          have m0_0 := m0_0.ext hE3_27
          have m3_26 := m3_26.ext hE3_27
          have m3_44 := m3_44.ext hE3_27
          have hX := hX.trans hE3_27
          refine ⟨(okc (lv_load (v := .slice _ _ _) rfl rfl (ld_blk m0_0 rfl)) (okc (lv_load (v := .slice _ _ _) rfl rfl (ld_blk m0_0 rfl)) okn)), ?_⟩
          refine xp_heavy (i := 30) (by kernel_rfl) ?_
          refine xph_val rfl rfl rfl rfl (hv_call (g := 45) rfl rfl (c45 d.gives _ _ (hs.ext hX) (good_g hg1_1) (by omega)) rfl) (pk (by kernel_rfl) (pd (by kernel_rfl) pn)) ?_
          rintro v3_30 H3_30 ⟨rfl, hE3_30⟩
          have m0_0 := m0_0.ext hE3_30
          have m3_26 := m3_26.ext hE3_30
          have m3_44 := m3_44.ext hE3_30
          have hX := hX.trans hE3_30
          refine ⟨(okc (lv_load (v := .slice _ _ _) rfl rfl (ld_blk m0_0 rfl)) okn), ?_⟩
          refine xp_pure (i := 31) rfl (by kernel_rfl) (by kernel_rfl) rfl rfl rfl (pv_add_s rfl rfl rfl (by have h1 := encK_len (n13 d); have h2 := encL_len d.gives; have h3 := encL_len d.wants; have h4 := encK_len (n4 d); simp [n13, n4] at *; omega)) ?_
          refine xp_heavy (i := 34) (by kernel_rfl) ?_
          refine xph_val rfl rfl rfl rfl (hv_call (g := 45) rfl rfl (c45 d.wants _ _ (hs'.ext hX) (good_w hg1_1) (by omega)) rfl) (pd (by kernel_rfl) pn) ?_
          rintro v3_34 H3_34 ⟨rfl, hE3_34⟩
          have m0_0 := m0_0.ext hE3_34
          have m3_26 := m3_26.ext hE3_34
          have m3_44 := m3_44.ext hE3_34
          have hX := hX.trans hE3_34
          refine ⟨okn, ?_⟩
          refine xp_pure (i := 35) rfl (by kernel_rfl) (by kernel_rfl) rfl rfl rfl (pv_add_s rfl rfl rfl (by have h1 := encK_len (n13 d); have h2 := encL_len d.gives; have h3 := encL_len d.wants; have h4 := encK_len (n4 d); simp [n13, n4] at *; omega)) ?_
          refine xp_heavy (i := 45) (by kernel_rfl) ?_
          refine xph_val rfl rfl rfl rfl (hv_call (g := 44) rfl rfl (c44 (n4 d) _ m3_44 (good_4 hg1_1) (by simp [n4])) rfl) pn ?_
          rintro v3_45 H3_45 ⟨rfl, hE3_45⟩
          have m0_0 := m0_0.ext hE3_45
          have m3_26 := m3_26.ext hE3_45
          have m3_44 := m3_44.ext hE3_45
          have hX := hX.trans hE3_45
          refine ⟨okn, ?_⟩
          refine xp_pure (i := 46) rfl (by kernel_rfl) (by kernel_rfl) rfl rfl rfl (pv_add_s rfl rfl rfl (by have h1 := encK_len (n13 d); have h2 := encL_len d.gives; have h3 := encL_len d.wants; have h4 := encK_len (n4 d); simp [n13, n4] at *; omega)) ?_
          refine xp_pure (i := 47) rfl (by kernel_rfl) (by kernel_rfl) rfl rfl rfl (pv_assign (v := .string (bs _)) rfl rfl) ?_
          refine xp_pure (i := 48) rfl (by kernel_rfl) (by kernel_rfl) rfl rfl rfl (pv_assign (v := .int _ _) rfl rfl) ?_
          refine xp_done (by kernel_rfl) ?_
          refine xthen_normal ?_
          refine xc_ret ?_
          refine fin_ret (res2 (v := .string (bs _)) (x := .int _ _) rfl rfl rfl) ?_
          exact ⟨.inr ⟨hg1_1, rfl⟩, hX⟩
      · skip
        refine xph_val rfl rfl rfl rfl (hv_buildSlice (cs := [.int _ _, .int _ _, .int _ _, .int _ _]) rfl rfl rfl rfl rfl) (pd (by kernel_rfl) (pd (by kernel_rfl) (pd (by kernel_rfl) (pd (by kernel_rfl) (pk (by kernel_rfl) (pk (by kernel_rfl) (pk (by kernel_rfl) (pk (by kernel_rfl) (pk (by kernel_rfl) (pk (by kernel_rfl) (pk (by kernel_rfl) (pk (by kernel_rfl) (pk (by kernel_rfl) (pk (by kernel_rfl) (pk (by kernel_rfl) (pk (by kernel_rfl) (pk (by kernel_rfl) (pk (by kernel_rfl) (pk (by kernel_rfl) pn))))))))))))))))))) ?_
        rintro v3_44 H3_44 ⟨b3_44, rfl, hN3_44⟩
        have gb3_44 := hX.fresh hN3_44
        have nm0_0_3_44 := m0_0.apart hN3_44
        have m0_0 := m0_0.ext hN3_44.ext
        have hX := hX.trans hN3_44.ext
        have m3_44 := hN3_44.blk
        refine ⟨(okc (lv_load (v := .slice _ _ _) rfl rfl (ld_blk m0_0 rfl)) (okc (lv_load (v := .slice _ _ _) rfl rfl (ld_blk m0_0 rfl)) (okc (lv_load (v := .int _ _) rfl rfl (ld_blk m0_0 rfl)) (okc (lv_load (v := .int _ _) rfl rfl (ld_blk m0_0 rfl)) (okc (lv_load (v := .int _ _) rfl rfl (ld_blk m0_0 rfl)) (okc (lv_load (v := .int _ _) rfl rfl (ld_blk m0_0 rfl)) (okc (lv_load (v := .int _ _) rfl rfl (ld_blk m0_0 rfl)) (okc (lv_load (v := .int _ _) rfl rfl (ld_blk m0_0 rfl)) (okc (lv_load (v := .int _ _) rfl rfl (ld_blk m0_0 rfl)) (okc (lv_load (v := .int _ _) rfl rfl (ld_blk m0_0 rfl)) (okc (lv_load (v := .int _ _) rfl rfl (ld_blk m0_0 rfl)) (okc (lv_load (v := .int _ _) rfl rfl (ld_blk m0_0 rfl)) (okc (lv_load (v := .int _ _) rfl rfl (ld_blk m0_0 rfl)) (okc (lv_load (v := .int _ _) rfl rfl (ld_blk m0_0 rfl)) (okc (lv_load (v := .int _ _) rfl rfl (ld_blk m0_0 rfl)) okn))))))))))))))), ?_⟩
        refine xp_heavy (i := 26) (by kernel_rfl) ?_
        refine xph_val rfl rfl rfl rfl (hv_buildSlice (cs := [.int _ _, .int _ _, .int _ _, .int _ _, .int _ _, .int _ _, .int _ _, .int _ _, .int _ _, .int _ _, .int _ _, .int _ _, .int _ _]) rfl rfl rfl rfl rfl) (pk (by kernel_rfl) (pk (by kernel_rfl) (pd (by kernel_rfl) (pd (by kernel_rfl) (pd (by kernel_rfl) (pd (by kernel_rfl) (pd (by kernel_rfl) (pd (by kernel_rfl) (pd (by kernel_rfl) (pd (by kernel_rfl) (pd (by kernel_rfl) (pd (by kernel_rfl) (pd (by kernel_rfl) (pd (by kernel_rfl) (pd (by kernel_rfl) pn))))))))))))))) ?_
        rintro v3_26 H3_26 ⟨b3_26, rfl, hN3_26⟩
        have gb3_26 := hX.fresh hN3_26
        have nm0_0_3_26 := m0_0.apart hN3_26
        have nm3_44_3_26 := m3_44.apart hN3_26
        have m0_0 := m0_0.ext hN3_26.ext
        have m3_44 := m3_44.ext hN3_26.ext
        have hX := hX.trans hN3_26.ext
        have m3_26 := hN3_26.blk
        refine ⟨(okc (lv_load (v := .slice _ _ _) rfl rfl (ld_blk m0_0 rfl)) (okc (lv_load (v := .slice _ _ _) rfl rfl (ld_blk m0_0 rfl)) okn)), ?_⟩
        refine xp_heavy (i := 27) (by kernel_rfl) ?_
        refine xph_val rfl rfl rfl rfl (hv_call (g := 44) rfl rfl (c44 (n13 d) _ m3_26 (good_13 hg1_1) (by simp [n13])) rfl) (pk (by kernel_rfl) (pk (by kernel_rfl) pn)) ?_
        rintro v3_27 H3_27 ⟨rfl, hE3_27⟩
        have m0_0 := m0_0.ext hE3_27
        have m3_44 := m3_44.ext hE3_27
        have m3_26 := m3_26.ext hE3_27
        have hX := hX.trans hE3_27
        refine ⟨(okc (lv_load (v := .slice _ _ _) rfl rfl (ld_blk m0_0 rfl)) (okc (lv_load (v := .slice _ _ _) rfl rfl (ld_blk m0_0 rfl)) okn)), ?_⟩
        refine xp_heavy (i := 30) (by kernel_rfl) ?_
        refine xph_val rfl rfl rfl rfl (hv_call (g := 45) rfl rfl (c45 d.gives _ _ (hs.ext hX) (good_g hg1_1) (by omega)) rfl) (pk (by kernel_rfl) (pd (by kernel_rfl) pn)) ?_
        rintro v3_30 H3_30 ⟨rfl, hE3_30⟩
        have m0_0 := m0_0.ext hE3_30
        have m3_44 := m3_44.ext hE3_30
        have m3_26 := m3_26.ext hE3_30
        have hX := hX.trans hE3_30
        refine ⟨(okc (lv_load (v := .slice _ _ _) rfl rfl (ld_blk m0_0 rfl)) okn), ?_⟩
        refine xp_pure (i := 31) rfl (by kernel_rfl) (by kernel_rfl) rfl rfl rfl (pv_add_s rfl rfl rfl (by have h1 := encK_len (n13 d); have h2 := encL_len d.gives; have h3 := encL_len d.wants; have h4 := encK_len (n4 d); simp [n13, n4] at *; omega)) ?_
        refine xp_heavy (i := 34) (by kernel_rfl) ?_
        refine xph_val rfl rfl rfl rfl (hv_call (g := 45) rfl rfl (c45 d.wants _ _ (hs'.ext hX) (good_w hg1_1) (by omega)) rfl) (pd (by kernel_rfl) pn) ?_
        rintro v3_34 H3_34 ⟨rfl, hE3_34⟩
        have m0_0 := m0_0.ext hE3_34
        have m3_44 := m3_44.ext hE3_34
        have m3_26 := m3_26.ext hE3_34
        have hX := hX.trans hE3_34
        refine ⟨okn, ?_⟩
        refine xp_pure (i := 35) rfl (by kernel_rfl) (by kernel_rfl) rfl rfl rfl (pv_add_s rfl rfl rfl (by have h1 := encK_len (n13 d); have h2 := encL_len d.gives; have h3 := encL_len d.wants; have h4 := encK_len (n4 d); simp [n13, n4] at *; omega)) ?_
        refine xp_heavy (i := 45) (by kernel_rfl) ?_
        refine xph_val rfl rfl rfl rfl (hv_call (g := 44) rfl rfl (c44 (n4 d) _ m3_44 (good_4 hg1_1) (by simp [n4])) rfl) pn ?_
        rintro v3_45 H3_45 ⟨rfl, hE3_45⟩
        have m0_0 := m0_0.ext hE3_45
        have m3_44 := m3_44.ext hE3_45
        have m3_26 := m3_26.ext hE3_45
        have hX := hX.trans hE3_45
        refine ⟨okn, ?_⟩
        refine xp_pure (i := 46) rfl (by kernel_rfl) (by kernel_rfl) rfl rfl rfl (pv_add_s rfl rfl rfl (by have h1 := encK_len (n13 d); have h2 := encL_len d.gives; have h3 := encL_len d.wants; have h4 := encK_len (n4 d); simp [n13, n4] at *; omega)) ?_
        refine xp_pure (i := 47) rfl (by kernel_rfl) (by kernel_rfl) rfl rfl rfl (pv_assign (v := .string (bs _)) rfl rfl) ?_
        refine xp_pure (i := 48) rfl (by kernel_rfl) (by kernel_rfl) rfl rfl rfl (pv_assign (v := .int _ _) rfl rfl) ?_
        refine xp_done (by kernel_rfl) ?_
        refine xthen_normal ?_
        refine xc_ret ?_
        refine fin_ret (res2 (v := .string (bs _)) (x := .int _ _) rfl rfl rfl) ?_
        exact ⟨.inr ⟨hg1_1, rfl⟩, hX⟩
    · exact absurd (by decide) h1_2
  · skip
    refine xl_ndec rfl rfl rfl (pv_neq rfl rfl rfl) (fun h1_2 => ?_) (fun h1_2 => ?_)
    · exact absurd h1_2 (by decide)
    · skip
      refine xl_nil ?_
      refine xthen_normal ?_
      refine xc_cond_t rfl ?_
      refine xc_seq ?_
      refine xc_region ?_
      refine xl_pure rfl rfl rfl (pv_assign (v := .string (bs _)) rfl rfl) ?_
      refine xl_pure rfl rfl rfl (pv_assign (v := .int _ _) rfl rfl) ?_
      refine xl_nil ?_
      refine xthen_normal ?_
      refine xc_ret ?_
      refine xthen_ret ?_
      refine fin_ret (res2 (v := .string (bs _)) (x := .int _ _) rfl rfl rfl) ?_
      exact ⟨.inl ⟨hg1_1, rfl⟩, hX⟩
end Go.XG
