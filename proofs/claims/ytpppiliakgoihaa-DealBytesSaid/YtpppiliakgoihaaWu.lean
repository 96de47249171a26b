/-
  Walks of the seat's functions over the logic XG: each function, what it computes. Printed by a program out of wip/walks.py.
-/
import Derived.Test.YtpppiliakgoihaaI
import Derived.Test.YtpppiliakgoihaaG
import Derived.Test.YtpppiliakgoihaaP
import Derived.Test.YtpppiliakgoihaaWa
import Derived.Test.YtpppiliakgoihaaWb
import Derived.Test.YtpppiliakgoihaaWc
import Derived.Test.YtpppiliakgoihaaWd
import Derived.Test.YtpppiliakgoihaaQ
import Derived.Test.YtpppiliakgoihaaR
import Derived.Test.YtpppiliakgoihaaXg
import Derived.Test.YtpppiliakgoihaaWe
import Derived.Test.YtpppiliakgoihaaWf
import Derived.Test.YtpppiliakgoihaaWg
import Derived.Test.YtpppiliakgoihaaWh
import Derived.Test.YtpppiliakgoihaaWi
import Derived.Test.YtpppiliakgoihaaWj
import Derived.Test.YtpppiliakgoihaaWk
import Derived.Test.YtpppiliakgoihaaV
import Derived.Test.YtpppiliakgoihaaXh
import Derived.Test.YtpppiliakgoihaaWl
import Derived.Test.YtpppiliakgoihaaWm
import Derived.Test.YtpppiliakgoihaaWn
import Derived.Test.YtpppiliakgoihaaU
import Derived.Test.YtpppiliakgoihaaWo
import Derived.Test.YtpppiliakgoihaaLn
import Derived.Test.YtpppiliakgoihaaNa
import Derived.Test.YtpppiliakgoihaaNb
import Derived.Test.YtpppiliakgoihaaNc
import Derived.Test.YtpppiliakgoihaaNd
import Derived.Test.YtpppiliakgoihaaNf
import Derived.Test.YtpppiliakgoihaaNg
import Derived.Test.YtpppiliakgoihaaXk
import Derived.Test.YtpppiliakgoihaaB5
import Derived.Test.YtpppiliakgoihaaWr
import Derived.Test.YtpppiliakgoihaaWs
import Derived.Test.YtpppiliakgoihaaWt
namespace Go.XG
open Go.Proofs Go.Pen
set_option maxRecDepth 4000
set_option maxHeartbeats 4000000
theorem c27 {O : Outer} {H : Heap} (s : List UInt8) :
    FnC Try.prog 27 #[.string (bs s)] O H (fun v H' => ∃ r x a' b' c' e', v = .tuple #[dv x a' b' c' e', .int .i64 r] ∧ (r, x) = readS s ∧ Stks H' a' x.gives ∧ Stks H' b' x.wants ∧ x.gives.length ≤ 8 ∧ x.wants.length ≤ 8 ∧ Ext H H') := by
  refine fn_enter (A := [.string (bs s)]) Try.func27 rfl rfl ?_
  have hX := Ext.refl H
  refine xc_seq ?_
  refine xc_region ?_
  refine xl_heavy rfl rfl rfl (hv_alloc rfl rfl) ?_
  rintro v0_0 H0_0 ⟨b0_0, rfl, hN0_0⟩
  have gb0_0 := hX.fresh hN0_0
  have hX := hX.trans hN0_0.ext
  have m0_0 := hN0_0.blk
  refine xl_pure rfl rfl rfl (pv_assign (v := .int _ _) rfl rfl) ?_
  refine xl_nil ?_
  refine xthen_normal ?_
  refine xc_seq ?_
  refine xc_region ?_
  refine xl_pure rfl rfl rfl (pv_move (v := .string (bs _)) rfl rfl) ?_
  refine xl_heavy rfl rfl rfl (hv_call (g := 46) rfl rfl (p14 s) rfl) ?_
  rintro v1_1 H1_1 ⟨rd, rfl, hN1_1⟩
  have grd := hX.fresh hN1_1
  have nm0_0_mr := m0_0.apart hN1_1
  have mr := hN1_1.blk
  have m0_0 := m0_0.ext hN1_1.ext
  have hX := hX.trans hN1_1.ext
  refine xl_heavy rfl rfl rfl (hv_alloc rfl rfl) ?_
  rintro v1_2 H1_2 ⟨b1_2, rfl, hN1_2⟩
  have gb1_2 := hX.fresh hN1_2
  have nm0_0_1_2 := m0_0.apart hN1_2
  have nmr_1_2 := mr.apart hN1_2
  have m0_0 := m0_0.ext hN1_2.ext
  have mr := mr.ext hN1_2.ext
  have hX := hX.trans hN1_2.ext
  have m1_2 := hN1_2.blk
  refine xl_store rfl rfl (hv_store (vs := [.pointer _]) rfl rfl rfl (m1_2) rfl (Nat.le_of_ble_eq_true rfl) rfl) ?_
  rintro v1_3 H1_3 ⟨hU1_3, hZ1_3⟩
  have m0_0 := m0_0.off hU1_3.but (nm0_0_1_2)
  have mr := mr.off hU1_3.but (nmr_1_2)
  have hX := hX.upd hU1_3.but gb1_2
  have m1_2 := hU1_3.blk
  refine xl_nil ?_
  refine xthen_normal ?_
  refine xc_seq ?_
  refine xc_region ?_
  refine xl_pure rfl rfl rfl (pv_makeFunc (a := []) (b := [.pointer _]) rfl rfl rfl) ?_
  refine xl_heavy rfl rfl rfl (hv_alloc rfl rfl) ?_
  rintro v2_1 H2_1 ⟨b2_1, rfl, hN2_1⟩
  have gb2_1 := hX.fresh hN2_1
  have nm0_0_2_1 := m0_0.apart hN2_1
  have nmr_2_1 := mr.apart hN2_1
  have nm1_2_2_1 := m1_2.apart hN2_1
  have m0_0 := m0_0.ext hN2_1.ext
  have mr := mr.ext hN2_1.ext
  have m1_2 := m1_2.ext hN2_1.ext
  have hX := hX.trans hN2_1.ext
  have m2_1 := hN2_1.blk
  refine xl_store rfl rfl (hv_store (vs := [_]) rfl rfl rfl (m2_1) rfl (Nat.le_of_ble_eq_true rfl) rfl) ?_
  rintro v2_2 H2_2 ⟨hU2_2, hZ2_2⟩
  have m0_0 := m0_0.off hU2_2.but (nm0_0_2_1)
  have mr := mr.off hU2_2.but (nmr_2_1)
  have m1_2 := m1_2.off hU2_2.but (nm1_2_2_1)
  have hX := hX.upd hU2_2.but gb2_1
  have m2_1 := hU2_2.blk
  refine xl_nil ?_
  refine xthen_normal ?_
  refine xc_seq ?_
  refine xc_region ?_
  refine xl_pure rfl rfl rfl (pv_makeFunc (a := []) (b := [.pointer _, .pointer _]) rfl rfl rfl) ?_
  refine xl_pure rfl rfl rfl (pv_assign rfl rfl) ?_
  refine xl_nil ?_
  refine xthen_normal ?_
  refine xc_cut (τ := List Int × List UInt8 × Bool × Nat) (fun t => [(2, .pointer (some ⟨b0_0, 0, none⟩)), (4, .pointer (some ⟨b1_2, 0, none⟩)), (5, .pointer (some ⟨b2_1, 0, none⟩)), (6, .func (.func 49) #[] #[.pointer (some ⟨b1_2, 0, none⟩), .pointer (some ⟨b2_1, 0, none⟩)]), (7, .pointer (some ⟨t.2.2.2, 0, none⟩))]) (fun t H' => (rdU 13 (s, false) = (t.1, (t.2.1, t.2.2.1))) ∧ (Blk H' b0_0 (dcs D0 none none 0 0) 24) ∧ (Blk H' rd [.string (bs t.2.1), .bool t.2.2.1, .bool true] 82) ∧ (Blk H' b1_2 [.pointer (some ⟨rd, 0, none⟩)] 66) ∧ (Blk H' b2_1 [.func (.func 47) #[] #[.pointer (some ⟨b1_2, 0, none⟩)]] 69) ∧ (Blk H' t.2.2.2 (dcs (mkD t.1 [] [] []) none none 0 0) 24) ∧ (Fresh H t.2.2.2) ∧ (Apart b0_0 t.2.2.2) ∧ (Apart rd t.2.2.2) ∧ (Apart b1_2 t.2.2.2) ∧ (Apart b2_1 t.2.2.2) ∧ (Ext H H')) ?_ ?_
  · skip
    refine xp_start rfl (by repeat (first | with_reducible exact np_fin | with_reducible refine np_then ?_ | with_reducible refine np_block ?_)) (by kernel_rfl) ?_
    refine xp_light (i := 0) rfl (by kernel_rfl) (by kernel_rfl) rfl rfl rfl (lv_load rfl rfl (ld_blk m2_1 rfl)) ?_
    refine xp_light (i := 2) rfl (by kernel_rfl) (by kernel_rfl) rfl rfl rfl (lv_load rfl rfl (ld_blk m2_1 rfl)) ?_
    refine xp_light (i := 4) rfl (by kernel_rfl) (by kernel_rfl) rfl rfl rfl (lv_load rfl rfl (ld_blk m2_1 rfl)) ?_
    refine xp_light (i := 6) rfl (by kernel_rfl) (by kernel_rfl) rfl rfl rfl (lv_load rfl rfl (ld_blk m2_1 rfl)) ?_
    refine xp_light (i := 8) rfl (by kernel_rfl) (by kernel_rfl) rfl rfl rfl (lv_load rfl rfl (ld_blk m2_1 rfl)) ?_
    refine xp_light (i := 10) rfl (by kernel_rfl) (by kernel_rfl) rfl rfl rfl (lv_load rfl rfl (ld_blk m2_1 rfl)) ?_
    refine xp_light (i := 12) rfl (by kernel_rfl) (by kernel_rfl) rfl rfl rfl (lv_load rfl rfl (ld_blk m2_1 rfl)) ?_
    refine xp_light (i := 14) rfl (by kernel_rfl) (by kernel_rfl) rfl rfl rfl (lv_load rfl rfl (ld_blk m2_1 rfl)) ?_
    refine xp_light (i := 16) rfl (by kernel_rfl) (by kernel_rfl) rfl rfl rfl (lv_load rfl rfl (ld_blk m2_1 rfl)) ?_
    refine xp_light (i := 18) rfl (by kernel_rfl) (by kernel_rfl) rfl rfl rfl (lv_load rfl rfl (ld_blk m2_1 rfl)) ?_
    refine xp_light (i := 20) rfl (by kernel_rfl) (by kernel_rfl) rfl rfl rfl (lv_load rfl rfl (ld_blk m2_1 rfl)) ?_
    refine xp_light (i := 22) rfl (by kernel_rfl) (by kernel_rfl) rfl rfl rfl (lv_load rfl rfl (ld_blk m2_1 rfl)) ?_
    refine xp_light (i := 24) rfl (by kernel_rfl) (by kernel_rfl) rfl rfl rfl (lv_load rfl rfl (ld_blk m2_1 rfl)) ?_
    refine xp_heavy2 (i := 1) (j := 27) (by kernel_rfl) ?_ ?_
    · skip
      refine xph_val rfl rfl rfl rfl (hv_call (g := 47) rfl rfl (c47 mr m1_2 nmr_1_2.symm) rfl) (pk (by kernel_rfl) (pk (by kernel_rfl) (pk (by kernel_rfl) (pk (by kernel_rfl) (pk (by kernel_rfl) (pk (by kernel_rfl) (pk (by kernel_rfl) (pk (by kernel_rfl) (pk (by kernel_rfl) (pk (by kernel_rfl) (pk (by kernel_rfl) (pk (by kernel_rfl) (pd (by kernel_rfl) pn))))))))))))) ?_
      rintro v4_1 H4_1 ⟨n4_1, l4_1, bad4_1, hw4_1, hn4_1, rfl, hU4_1⟩
      have m0_0 := m0_0.off hU4_1.but (nm0_0_mr)
      have m1_2 := m1_2.off hU4_1.but (nmr_1_2.symm)
      have m2_1 := m2_1.off hU4_1.but (nmr_2_1.symm)
      have hX := hX.upd hU4_1.but grd
      have mr := hU4_1.blk
      refine ⟨(okc (lv_load rfl rfl (ld_blk m2_1 rfl)) (okc (lv_load rfl rfl (ld_blk m2_1 rfl)) (okc (lv_load rfl rfl (ld_blk m2_1 rfl)) (okc (lv_load rfl rfl (ld_blk m2_1 rfl)) (okc (lv_load rfl rfl (ld_blk m2_1 rfl)) (okc (lv_load rfl rfl (ld_blk m2_1 rfl)) (okc (lv_load rfl rfl (ld_blk m2_1 rfl)) (okc (lv_load rfl rfl (ld_blk m2_1 rfl)) (okc (lv_load rfl rfl (ld_blk m2_1 rfl)) (okc (lv_load rfl rfl (ld_blk m2_1 rfl)) (okc (lv_load rfl rfl (ld_blk m2_1 rfl)) (okc (lv_load rfl rfl (ld_blk m2_1 rfl)) okn)))))))))))), ?_⟩
      refine xp_heavy2 (i := 3) (j := 27) (by kernel_rfl) ?_ ?_
      · skip
        refine xph_val rfl rfl rfl rfl (hv_call (g := 47) rfl rfl (c47 mr m1_2 nmr_1_2.symm) rfl) (pk (by kernel_rfl) (pk (by kernel_rfl) (pk (by kernel_rfl) (pk (by kernel_rfl) (pk (by kernel_rfl) (pk (by kernel_rfl) (pk (by kernel_rfl) (pk (by kernel_rfl) (pk (by kernel_rfl) (pk (by kernel_rfl) (pk (by kernel_rfl) (pd (by kernel_rfl) pn)))))))))))) ?_
        rintro v4_3 H4_3 ⟨n4_3, l4_3, bad4_3, hw4_3, hn4_3, rfl, hU4_3⟩
        have m0_0 := m0_0.off hU4_3.but (nm0_0_mr)
        have m1_2 := m1_2.off hU4_3.but (nmr_1_2.symm)
        have m2_1 := m2_1.off hU4_3.but (nmr_2_1.symm)
        have hX := hX.upd hU4_3.but grd
        have mr := hU4_3.blk
        refine ⟨(okc (lv_load rfl rfl (ld_blk m2_1 rfl)) (okc (lv_load rfl rfl (ld_blk m2_1 rfl)) (okc (lv_load rfl rfl (ld_blk m2_1 rfl)) (okc (lv_load rfl rfl (ld_blk m2_1 rfl)) (okc (lv_load rfl rfl (ld_blk m2_1 rfl)) (okc (lv_load rfl rfl (ld_blk m2_1 rfl)) (okc (lv_load rfl rfl (ld_blk m2_1 rfl)) (okc (lv_load rfl rfl (ld_blk m2_1 rfl)) (okc (lv_load rfl rfl (ld_blk m2_1 rfl)) (okc (lv_load rfl rfl (ld_blk m2_1 rfl)) (okc (lv_load rfl rfl (ld_blk m2_1 rfl)) okn))))))))))), ?_⟩
        refine xp_heavy2 (i := 5) (j := 27) (by kernel_rfl) ?_ ?_
        · skip
          refine xph_val rfl rfl rfl rfl (hv_call (g := 47) rfl rfl (c47 mr m1_2 nmr_1_2.symm) rfl) (pk (by kernel_rfl) (pk (by kernel_rfl) (pk (by kernel_rfl) (pk (by kernel_rfl) (pk (by kernel_rfl) (pk (by kernel_rfl) (pk (by kernel_rfl) (pk (by kernel_rfl) (pk (by kernel_rfl) (pk (by kernel_rfl) (pd (by kernel_rfl) pn))))))))))) ?_
          rintro v4_5 H4_5 ⟨n4_5, l4_5, bad4_5, hw4_5, hn4_5, rfl, hU4_5⟩
          have m0_0 := m0_0.off hU4_5.but (nm0_0_mr)
          have m1_2 := m1_2.off hU4_5.but (nmr_1_2.symm)
          have m2_1 := m2_1.off hU4_5.but (nmr_2_1.symm)
          have hX := hX.upd hU4_5.but grd
          have mr := hU4_5.blk
          refine ⟨(okc (lv_load rfl rfl (ld_blk m2_1 rfl)) (okc (lv_load rfl rfl (ld_blk m2_1 rfl)) (okc (lv_load rfl rfl (ld_blk m2_1 rfl)) (okc (lv_load rfl rfl (ld_blk m2_1 rfl)) (okc (lv_load rfl rfl (ld_blk m2_1 rfl)) (okc (lv_load rfl rfl (ld_blk m2_1 rfl)) (okc (lv_load rfl rfl (ld_blk m2_1 rfl)) (okc (lv_load rfl rfl (ld_blk m2_1 rfl)) (okc (lv_load rfl rfl (ld_blk m2_1 rfl)) (okc (lv_load rfl rfl (ld_blk m2_1 rfl)) okn)))))))))), ?_⟩
          refine xp_heavy2 (i := 7) (j := 27) (by kernel_rfl) ?_ ?_
          · skip
            refine xph_val rfl rfl rfl rfl (hv_call (g := 47) rfl rfl (c47 mr m1_2 nmr_1_2.symm) rfl) (pk (by kernel_rfl) (pk (by kernel_rfl) (pk (by kernel_rfl) (pk (by kernel_rfl) (pk (by kernel_rfl) (pk (by kernel_rfl) (pk (by kernel_rfl) (pk (by kernel_rfl) (pk (by kernel_rfl) (pd (by kernel_rfl) pn)))))))))) ?_
            rintro v4_7 H4_7 ⟨n4_7, l4_7, bad4_7, hw4_7, hn4_7, rfl, hU4_7⟩
            have m0_0 := m0_0.off hU4_7.but (nm0_0_mr)
            have m1_2 := m1_2.off hU4_7.but (nmr_1_2.symm)
            have m2_1 := m2_1.off hU4_7.but (nmr_2_1.symm)
            have hX := hX.upd hU4_7.but grd
            have mr := hU4_7.blk
            refine ⟨(okc (lv_load rfl rfl (ld_blk m2_1 rfl)) (okc (lv_load rfl rfl (ld_blk m2_1 rfl)) (okc (lv_load rfl rfl (ld_blk m2_1 rfl)) (okc (lv_load rfl rfl (ld_blk m2_1 rfl)) (okc (lv_load rfl rfl (ld_blk m2_1 rfl)) (okc (lv_load rfl rfl (ld_blk m2_1 rfl)) (okc (lv_load rfl rfl (ld_blk m2_1 rfl)) (okc (lv_load rfl rfl (ld_blk m2_1 rfl)) (okc (lv_load rfl rfl (ld_blk m2_1 rfl)) okn))))))))), ?_⟩
            refine xp_heavy2 (i := 9) (j := 27) (by kernel_rfl) ?_ ?_
            · skip
              refine xph_val rfl rfl rfl rfl (hv_call (g := 47) rfl rfl (c47 mr m1_2 nmr_1_2.symm) rfl) (pk (by kernel_rfl) (pk (by kernel_rfl) (pk (by kernel_rfl) (pk (by kernel_rfl) (pk (by kernel_rfl) (pk (by kernel_rfl) (pk (by kernel_rfl) (pk (by kernel_rfl) (pd (by kernel_rfl) pn))))))))) ?_
              rintro v4_9 H4_9 ⟨n4_9, l4_9, bad4_9, hw4_9, hn4_9, rfl, hU4_9⟩
              have m0_0 := m0_0.off hU4_9.but (nm0_0_mr)
              have m1_2 := m1_2.off hU4_9.but (nmr_1_2.symm)
              have m2_1 := m2_1.off hU4_9.but (nmr_2_1.symm)
              have hX := hX.upd hU4_9.but grd
              have mr := hU4_9.blk
              refine ⟨(okc (lv_load rfl rfl (ld_blk m2_1 rfl)) (okc (lv_load rfl rfl (ld_blk m2_1 rfl)) (okc (lv_load rfl rfl (ld_blk m2_1 rfl)) (okc (lv_load rfl rfl (ld_blk m2_1 rfl)) (okc (lv_load rfl rfl (ld_blk m2_1 rfl)) (okc (lv_load rfl rfl (ld_blk m2_1 rfl)) (okc (lv_load rfl rfl (ld_blk m2_1 rfl)) (okc (lv_load rfl rfl (ld_blk m2_1 rfl)) okn)))))))), ?_⟩
              refine xp_heavy2 (i := 11) (j := 27) (by kernel_rfl) ?_ ?_
              · skip
                refine xph_val rfl rfl rfl rfl (hv_call (g := 47) rfl rfl (c47 mr m1_2 nmr_1_2.symm) rfl) (pk (by kernel_rfl) (pk (by kernel_rfl) (pk (by kernel_rfl) (pk (by kernel_rfl) (pk (by kernel_rfl) (pk (by kernel_rfl) (pk (by kernel_rfl) (pd (by kernel_rfl) pn)))))))) ?_
                rintro v4_11 H4_11 ⟨n4_11, l4_11, bad4_11, hw4_11, hn4_11, rfl, hU4_11⟩
                have m0_0 := m0_0.off hU4_11.but (nm0_0_mr)
                have m1_2 := m1_2.off hU4_11.but (nmr_1_2.symm)
                have m2_1 := m2_1.off hU4_11.but (nmr_2_1.symm)
                have hX := hX.upd hU4_11.but grd
                have mr := hU4_11.blk
                refine ⟨(okc (lv_load rfl rfl (ld_blk m2_1 rfl)) (okc (lv_load rfl rfl (ld_blk m2_1 rfl)) (okc (lv_load rfl rfl (ld_blk m2_1 rfl)) (okc (lv_load rfl rfl (ld_blk m2_1 rfl)) (okc (lv_load rfl rfl (ld_blk m2_1 rfl)) (okc (lv_load rfl rfl (ld_blk m2_1 rfl)) (okc (lv_load rfl rfl (ld_blk m2_1 rfl)) okn))))))), ?_⟩
                refine xp_heavy2 (i := 13) (j := 27) (by kernel_rfl) ?_ ?_
                · skip
                  refine xph_val rfl rfl rfl rfl (hv_call (g := 47) rfl rfl (c47 mr m1_2 nmr_1_2.symm) rfl) (pk (by kernel_rfl) (pk (by kernel_rfl) (pk (by kernel_rfl) (pk (by kernel_rfl) (pk (by kernel_rfl) (pk (by kernel_rfl) (pd (by kernel_rfl) pn))))))) ?_
                  rintro v4_13 H4_13 ⟨n4_13, l4_13, bad4_13, hw4_13, hn4_13, rfl, hU4_13⟩
                  have m0_0 := m0_0.off hU4_13.but (nm0_0_mr)
                  have m1_2 := m1_2.off hU4_13.but (nmr_1_2.symm)
                  have m2_1 := m2_1.off hU4_13.but (nmr_2_1.symm)
                  have hX := hX.upd hU4_13.but grd
                  have mr := hU4_13.blk
                  refine ⟨(okc (lv_load rfl rfl (ld_blk m2_1 rfl)) (okc (lv_load rfl rfl (ld_blk m2_1 rfl)) (okc (lv_load rfl rfl (ld_blk m2_1 rfl)) (okc (lv_load rfl rfl (ld_blk m2_1 rfl)) (okc (lv_load rfl rfl (ld_blk m2_1 rfl)) (okc (lv_load rfl rfl (ld_blk m2_1 rfl)) okn)))))), ?_⟩
                  refine xp_heavy2 (i := 15) (j := 27) (by kernel_rfl) ?_ ?_
                  · skip
                    refine xph_val rfl rfl rfl rfl (hv_call (g := 47) rfl rfl (c47 mr m1_2 nmr_1_2.symm) rfl) (pk (by kernel_rfl) (pk (by kernel_rfl) (pk (by kernel_rfl) (pk (by kernel_rfl) (pk (by kernel_rfl) (pd (by kernel_rfl) pn)))))) ?_
                    rintro v4_15 H4_15 ⟨n4_15, l4_15, bad4_15, hw4_15, hn4_15, rfl, hU4_15⟩
                    have m0_0 := m0_0.off hU4_15.but (nm0_0_mr)
                    have m1_2 := m1_2.off hU4_15.but (nmr_1_2.symm)
                    have m2_1 := m2_1.off hU4_15.but (nmr_2_1.symm)
                    have hX := hX.upd hU4_15.but grd
                    have mr := hU4_15.blk
                    refine ⟨(okc (lv_load rfl rfl (ld_blk m2_1 rfl)) (okc (lv_load rfl rfl (ld_blk m2_1 rfl)) (okc (lv_load rfl rfl (ld_blk m2_1 rfl)) (okc (lv_load rfl rfl (ld_blk m2_1 rfl)) (okc (lv_load rfl rfl (ld_blk m2_1 rfl)) okn))))), ?_⟩
                    refine xp_heavy2 (i := 17) (j := 27) (by kernel_rfl) ?_ ?_
                    · skip
                      refine xph_val rfl rfl rfl rfl (hv_call (g := 47) rfl rfl (c47 mr m1_2 nmr_1_2.symm) rfl) (pk (by kernel_rfl) (pk (by kernel_rfl) (pk (by kernel_rfl) (pk (by kernel_rfl) (pd (by kernel_rfl) pn))))) ?_
                      rintro v4_17 H4_17 ⟨n4_17, l4_17, bad4_17, hw4_17, hn4_17, rfl, hU4_17⟩
                      have m0_0 := m0_0.off hU4_17.but (nm0_0_mr)
                      have m1_2 := m1_2.off hU4_17.but (nmr_1_2.symm)
                      have m2_1 := m2_1.off hU4_17.but (nmr_2_1.symm)
                      have hX := hX.upd hU4_17.but grd
                      have mr := hU4_17.blk
                      refine ⟨(okc (lv_load rfl rfl (ld_blk m2_1 rfl)) (okc (lv_load rfl rfl (ld_blk m2_1 rfl)) (okc (lv_load rfl rfl (ld_blk m2_1 rfl)) (okc (lv_load rfl rfl (ld_blk m2_1 rfl)) okn)))), ?_⟩
                      refine xp_heavy2 (i := 19) (j := 27) (by kernel_rfl) ?_ ?_
                      · skip
                        refine xph_val rfl rfl rfl rfl (hv_call (g := 47) rfl rfl (c47 mr m1_2 nmr_1_2.symm) rfl) (pk (by kernel_rfl) (pk (by kernel_rfl) (pk (by kernel_rfl) (pd (by kernel_rfl) pn)))) ?_
                        rintro v4_19 H4_19 ⟨n4_19, l4_19, bad4_19, hw4_19, hn4_19, rfl, hU4_19⟩
                        have m0_0 := m0_0.off hU4_19.but (nm0_0_mr)
                        have m1_2 := m1_2.off hU4_19.but (nmr_1_2.symm)
                        have m2_1 := m2_1.off hU4_19.but (nmr_2_1.symm)
                        have hX := hX.upd hU4_19.but grd
                        have mr := hU4_19.blk
                        refine ⟨(okc (lv_load rfl rfl (ld_blk m2_1 rfl)) (okc (lv_load rfl rfl (ld_blk m2_1 rfl)) (okc (lv_load rfl rfl (ld_blk m2_1 rfl)) okn))), ?_⟩
                        refine xp_heavy2 (i := 21) (j := 27) (by kernel_rfl) ?_ ?_
                        · skip
                          refine xph_val rfl rfl rfl rfl (hv_call (g := 47) rfl rfl (c47 mr m1_2 nmr_1_2.symm) rfl) (pk (by kernel_rfl) (pk (by kernel_rfl) (pd (by kernel_rfl) pn))) ?_
                          rintro v4_21 H4_21 ⟨n4_21, l4_21, bad4_21, hw4_21, hn4_21, rfl, hU4_21⟩
                          have m0_0 := m0_0.off hU4_21.but (nm0_0_mr)
                          have m1_2 := m1_2.off hU4_21.but (nmr_1_2.symm)
                          have m2_1 := m2_1.off hU4_21.but (nmr_2_1.symm)
                          have hX := hX.upd hU4_21.but grd
                          have mr := hU4_21.blk
                          refine ⟨(okc (lv_load rfl rfl (ld_blk m2_1 rfl)) (okc (lv_load rfl rfl (ld_blk m2_1 rfl)) okn)), ?_⟩
                          refine xp_heavy2 (i := 23) (j := 27) (by kernel_rfl) ?_ ?_
                          · skip
                            refine xph_val rfl rfl rfl rfl (hv_call (g := 47) rfl rfl (c47 mr m1_2 nmr_1_2.symm) rfl) (pk (by kernel_rfl) (pd (by kernel_rfl) pn)) ?_
                            rintro v4_23 H4_23 ⟨n4_23, l4_23, bad4_23, hw4_23, hn4_23, rfl, hU4_23⟩
                            have m0_0 := m0_0.off hU4_23.but (nm0_0_mr)
                            have m1_2 := m1_2.off hU4_23.but (nmr_1_2.symm)
                            have m2_1 := m2_1.off hU4_23.but (nmr_2_1.symm)
                            have hX := hX.upd hU4_23.but grd
                            have mr := hU4_23.blk
                            refine ⟨(okc (lv_load rfl rfl (ld_blk m2_1 rfl)) okn), ?_⟩
                            refine xp_heavy2 (i := 25) (j := 27) (by kernel_rfl) ?_ ?_
                            · skip
                              refine xph_val rfl rfl rfl rfl (hv_call (g := 47) rfl rfl (c47 mr m1_2 nmr_1_2.symm) rfl) (pd (by kernel_rfl) pn) ?_
                              rintro v4_25 H4_25 ⟨n4_25, l4_25, bad4_25, hw4_25, hn4_25, rfl, hU4_25⟩
                              have m0_0 := m0_0.off hU4_25.but (nm0_0_mr)
                              have m1_2 := m1_2.off hU4_25.but (nmr_1_2.symm)
                              have m2_1 := m2_1.off hU4_25.but (nmr_2_1.symm)
                              have hX := hX.upd hU4_25.but grd
                              have mr := hU4_25.blk
                              refine ⟨okn, ?_⟩
                              refine xp_pure (i := 26) rfl (by kernel_rfl) (by kernel_rfl) rfl rfl rfl (pv_build_s (cs := dcs (mkD [(n4_1 : Int), (n4_3 : Int), (n4_5 : Int), (n4_7 : Int), (n4_9 : Int), (n4_11 : Int), (n4_13 : Int), (n4_15 : Int), (n4_17 : Int), (n4_19 : Int), (n4_21 : Int), (n4_23 : Int), (n4_25 : Int)] [] [] []) none none 0 0) rfl rfl (by kernel_rfl)) ?_
                              refine xp_heavy (i := 27) (by kernel_rfl) ?_
                              refine xph_val rfl rfl rfl rfl (hv_alloc rfl rfl) pn ?_
                              rintro v4_27 H4_27 ⟨b4_27, rfl, hN4_27⟩
                              have gb4_27 := hX.fresh hN4_27
                              have nm0_0_4_27 := m0_0.apart hN4_27
                              have nmr_4_27 := mr.apart hN4_27
                              have nm1_2_4_27 := m1_2.apart hN4_27
                              have nm2_1_4_27 := m2_1.apart hN4_27
                              have m0_0 := m0_0.ext hN4_27.ext
                              have mr := mr.ext hN4_27.ext
                              have m1_2 := m1_2.ext hN4_27.ext
                              have m2_1 := m2_1.ext hN4_27.ext
                              have hX := hX.trans hN4_27.ext
                              have m4_27 := hN4_27.blk
                              refine ⟨okn, ?_⟩
                              refine xp_heavy (i := 28) (by kernel_rfl) ?_
                              refine xph_store rfl rfl rfl (hv_storeA (vs := dcs (mkD [(n4_1 : Int), (n4_3 : Int), (n4_5 : Int), (n4_7 : Int), (n4_9 : Int), (n4_11 : Int), (n4_13 : Int), (n4_15 : Int), (n4_17 : Int), (n4_19 : Int), (n4_21 : Int), (n4_23 : Int), (n4_25 : Int)] [] [] []) none none 0 0) rfl rfl rfl (m4_27) rfl (by rfl) rfl) pn ?_
                              rintro v4_28 H4_28 ⟨hU4_28, hZ4_28⟩
                              have m0_0 := m0_0.off hU4_28.but (nm0_0_4_27)
                              have mr := mr.off hU4_28.but (nmr_4_27)
                              have m1_2 := m1_2.off hU4_28.but (nm1_2_4_27)
                              have m2_1 := m2_1.off hU4_28.but (nm2_1_4_27)
                              have hX := hX.upd hU4_28.but gb4_27
                              have m4_27 := hU4_28.blk
                              refine ⟨okn, ?_⟩
                              refine xp_done (by kernel_rfl) ?_
                              refine xthen_normal ?_
                              exact ⟨([(n4_1 : Int), (n4_3 : Int), (n4_5 : Int), (n4_7 : Int), (n4_9 : Int), (n4_11 : Int), (n4_13 : Int), (n4_15 : Int), (n4_17 : Int), (n4_19 : Int), (n4_21 : Int), (n4_23 : Int), (n4_25 : Int)], _, _, _), ⟨rfl, rfl, rfl, rfl, rfl, trivial⟩, ⟨rdU_13 hw4_1 hw4_3 hw4_5 hw4_7 hw4_9 hw4_11 hw4_13 hw4_15 hw4_17 hw4_19 hw4_21 hw4_23 hw4_25, m0_0, mr, m1_2, m2_1, m4_27, gb4_27, nm0_0_4_27, nmr_4_27, nm1_2_4_27, nm2_1_4_27, hX⟩⟩
                            · skip
                              refine xph_val rfl rfl rfl rfl (hv_alloc rfl rfl) (pk (by kernel_rfl) pn) ?_
                              rintro v4_27 H4_27 ⟨b4_27, rfl, hN4_27⟩
                              have gb4_27 := hX.fresh hN4_27
                              have nm0_0_4_27 := m0_0.apart hN4_27
                              have nmr_4_27 := mr.apart hN4_27
                              have nm1_2_4_27 := m1_2.apart hN4_27
                              have nm2_1_4_27 := m2_1.apart hN4_27
                              have m0_0 := m0_0.ext hN4_27.ext
                              have mr := mr.ext hN4_27.ext
                              have m1_2 := m1_2.ext hN4_27.ext
                              have m2_1 := m2_1.ext hN4_27.ext
                              have hX := hX.trans hN4_27.ext
                              have m4_27 := hN4_27.blk
                              refine ⟨(okc (lv_load rfl rfl (ld_blk m2_1 rfl)) okn), ?_⟩
                              refine xp_heavy (i := 25) (by kernel_rfl) ?_
                              refine xph_val rfl rfl rfl rfl (hv_call (g := 47) rfl rfl (c47 mr m1_2 nmr_1_2.symm) rfl) (pd (by kernel_rfl) pn) ?_
                              rintro v4_25 H4_25 ⟨n4_25, l4_25, bad4_25, hw4_25, hn4_25, rfl, hU4_25⟩
                              have m0_0 := m0_0.off hU4_25.but (nm0_0_mr)
                              have m1_2 := m1_2.off hU4_25.but (nmr_1_2.symm)
                              have m2_1 := m2_1.off hU4_25.but (nmr_2_1.symm)
                              have m4_27 := m4_27.off hU4_25.but (nmr_4_27.symm)
                              have hX := hX.upd hU4_25.but grd
                              have mr := hU4_25.blk
                              refine ⟨okn, ?_⟩
                              refine xp_pure (i := 26) rfl (by kernel_rfl) (by kernel_rfl) rfl rfl rfl (pv_build_s (cs := dcs (mkD [(n4_1 : Int), (n4_3 : Int), (n4_5 : Int), (n4_7 : Int), (n4_9 : Int), (n4_11 : Int), (n4_13 : Int), (n4_15 : Int), (n4_17 : Int), (n4_19 : Int), (n4_21 : Int), (n4_23 : Int), (n4_25 : Int)] [] [] []) none none 0 0) rfl rfl (by kernel_rfl)) ?_
                              refine xp_heavy (i := 28) (by kernel_rfl) ?_
                              refine xph_store rfl rfl rfl (hv_storeA (vs := dcs (mkD [(n4_1 : Int), (n4_3 : Int), (n4_5 : Int), (n4_7 : Int), (n4_9 : Int), (n4_11 : Int), (n4_13 : Int), (n4_15 : Int), (n4_17 : Int), (n4_19 : Int), (n4_21 : Int), (n4_23 : Int), (n4_25 : Int)] [] [] []) none none 0 0) rfl rfl rfl (m4_27) rfl (by rfl) rfl) pn ?_
                              rintro v4_28 H4_28 ⟨hU4_28, hZ4_28⟩
                              have m0_0 := m0_0.off hU4_28.but (nm0_0_4_27)
                              have mr := mr.off hU4_28.but (nmr_4_27)
                              have m1_2 := m1_2.off hU4_28.but (nm1_2_4_27)
                              have m2_1 := m2_1.off hU4_28.but (nm2_1_4_27)
                              have hX := hX.upd hU4_28.but gb4_27
                              have m4_27 := hU4_28.blk
                              refine ⟨okn, ?_⟩
                              refine xp_done (by kernel_rfl) ?_
                              refine xthen_normal ?_
                              exact ⟨([(n4_1 : Int), (n4_3 : Int), (n4_5 : Int), (n4_7 : Int), (n4_9 : Int), (n4_11 : Int), (n4_13 : Int), (n4_15 : Int), (n4_17 : Int), (n4_19 : Int), (n4_21 : Int), (n4_23 : Int), (n4_25 : Int)], _, _, _), ⟨rfl, rfl, rfl, rfl, rfl, trivial⟩, ⟨rdU_13 hw4_1 hw4_3 hw4_5 hw4_7 hw4_9 hw4_11 hw4_13 hw4_15 hw4_17 hw4_19 hw4_21 hw4_23 hw4_25, m0_0, mr, m1_2, m2_1, m4_27, gb4_27, nm0_0_4_27, nmr_4_27, nm1_2_4_27, nm2_1_4_27, hX⟩⟩
                          · skip
                            refine xph_val rfl rfl rfl rfl (hv_alloc rfl rfl) (pk (by kernel_rfl) (pk (by kernel_rfl) pn)) ?_
                            rintro v4_27 H4_27 ⟨b4_27, rfl, hN4_27⟩
                            have gb4_27 := hX.fresh hN4_27
                            have nm0_0_4_27 := m0_0.apart hN4_27
                            have nmr_4_27 := mr.apart hN4_27
                            have nm1_2_4_27 := m1_2.apart hN4_27
                            have nm2_1_4_27 := m2_1.apart hN4_27
                            have m0_0 := m0_0.ext hN4_27.ext
                            have mr := mr.ext hN4_27.ext
                            have m1_2 := m1_2.ext hN4_27.ext
                            have m2_1 := m2_1.ext hN4_27.ext
                            have hX := hX.trans hN4_27.ext
                            have m4_27 := hN4_27.blk
                            refine ⟨(okc (lv_load rfl rfl (ld_blk m2_1 rfl)) (okc (lv_load rfl rfl (ld_blk m2_1 rfl)) okn)), ?_⟩
                            refine xp_heavy (i := 23) (by kernel_rfl) ?_
                            refine xph_val rfl rfl rfl rfl (hv_call (g := 47) rfl rfl (c47 mr m1_2 nmr_1_2.symm) rfl) (pk (by kernel_rfl) (pd (by kernel_rfl) pn)) ?_
                            rintro v4_23 H4_23 ⟨n4_23, l4_23, bad4_23, hw4_23, hn4_23, rfl, hU4_23⟩
                            have m0_0 := m0_0.off hU4_23.but (nm0_0_mr)
                            have m1_2 := m1_2.off hU4_23.but (nmr_1_2.symm)
                            have m2_1 := m2_1.off hU4_23.but (nmr_2_1.symm)
                            have m4_27 := m4_27.off hU4_23.but (nmr_4_27.symm)
                            have hX := hX.upd hU4_23.but grd
                            have mr := hU4_23.blk
                            refine ⟨(okc (lv_load rfl rfl (ld_blk m2_1 rfl)) okn), ?_⟩
                            refine xp_heavy (i := 25) (by kernel_rfl) ?_
                            refine xph_val rfl rfl rfl rfl (hv_call (g := 47) rfl rfl (c47 mr m1_2 nmr_1_2.symm) rfl) (pd (by kernel_rfl) pn) ?_
                            rintro v4_25 H4_25 ⟨n4_25, l4_25, bad4_25, hw4_25, hn4_25, rfl, hU4_25⟩
                            have m0_0 := m0_0.off hU4_25.but (nm0_0_mr)
                            have m1_2 := m1_2.off hU4_25.but (nmr_1_2.symm)
                            have m2_1 := m2_1.off hU4_25.but (nmr_2_1.symm)
                            have m4_27 := m4_27.off hU4_25.but (nmr_4_27.symm)
                            have hX := hX.upd hU4_25.but grd
                            have mr := hU4_25.blk
                            refine ⟨okn, ?_⟩
                            refine xp_pure (i := 26) rfl (by kernel_rfl) (by kernel_rfl) rfl rfl rfl (pv_build_s (cs := dcs (mkD [(n4_1 : Int), (n4_3 : Int), (n4_5 : Int), (n4_7 : Int), (n4_9 : Int), (n4_11 : Int), (n4_13 : Int), (n4_15 : Int), (n4_17 : Int), (n4_19 : Int), (n4_21 : Int), (n4_23 : Int), (n4_25 : Int)] [] [] []) none none 0 0) rfl rfl (by kernel_rfl)) ?_
                            refine xp_heavy (i := 28) (by kernel_rfl) ?_
                            refine xph_store rfl rfl rfl (hv_storeA (vs := dcs (mkD [(n4_1 : Int), (n4_3 : Int), (n4_5 : Int), (n4_7 : Int), (n4_9 : Int), (n4_11 : Int), (n4_13 : Int), (n4_15 : Int), (n4_17 : Int), (n4_19 : Int), (n4_21 : Int), (n4_23 : Int), (n4_25 : Int)] [] [] []) none none 0 0) rfl rfl rfl (m4_27) rfl (by rfl) rfl) pn ?_
                            rintro v4_28 H4_28 ⟨hU4_28, hZ4_28⟩
                            have m0_0 := m0_0.off hU4_28.but (nm0_0_4_27)
                            have mr := mr.off hU4_28.but (nmr_4_27)
                            have m1_2 := m1_2.off hU4_28.but (nm1_2_4_27)
                            have m2_1 := m2_1.off hU4_28.but (nm2_1_4_27)
                            have hX := hX.upd hU4_28.but gb4_27
                            have m4_27 := hU4_28.blk
                            refine ⟨okn, ?_⟩
                            refine xp_done (by kernel_rfl) ?_
                            refine xthen_normal ?_
                            exact ⟨([(n4_1 : Int), (n4_3 : Int), (n4_5 : Int), (n4_7 : Int), (n4_9 : Int), (n4_11 : Int), (n4_13 : Int), (n4_15 : Int), (n4_17 : Int), (n4_19 : Int), (n4_21 : Int), (n4_23 : Int), (n4_25 : Int)], _, _, _), ⟨rfl, rfl, rfl, rfl, rfl, trivial⟩, ⟨rdU_13 hw4_1 hw4_3 hw4_5 hw4_7 hw4_9 hw4_11 hw4_13 hw4_15 hw4_17 hw4_19 hw4_21 hw4_23 hw4_25, m0_0, mr, m1_2, m2_1, m4_27, gb4_27, nm0_0_4_27, nmr_4_27, nm1_2_4_27, nm2_1_4_27, hX⟩⟩
                        · skip
                          refine xph_val rfl rfl rfl rfl (hv_alloc rfl rfl) (pk (by kernel_rfl) (pk (by kernel_rfl) (pk (by kernel_rfl) pn))) ?_
                          rintro v4_27 H4_27 ⟨b4_27, rfl, hN4_27⟩
                          have gb4_27 := hX.fresh hN4_27
                          have nm0_0_4_27 := m0_0.apart hN4_27
                          have nmr_4_27 := mr.apart hN4_27
                          have nm1_2_4_27 := m1_2.apart hN4_27
                          have nm2_1_4_27 := m2_1.apart hN4_27
                          have m0_0 := m0_0.ext hN4_27.ext
                          have mr := mr.ext hN4_27.ext
                          have m1_2 := m1_2.ext hN4_27.ext
                          have m2_1 := m2_1.ext hN4_27.ext
                          have hX := hX.trans hN4_27.ext
                          have m4_27 := hN4_27.blk
                          refine ⟨(okc (lv_load rfl rfl (ld_blk m2_1 rfl)) (okc (lv_load rfl rfl (ld_blk m2_1 rfl)) (okc (lv_load rfl rfl (ld_blk m2_1 rfl)) okn))), ?_⟩
                          refine xp_heavy (i := 21) (by kernel_rfl) ?_
                          refine xph_val rfl rfl rfl rfl (hv_call (g := 47) rfl rfl (c47 mr m1_2 nmr_1_2.symm) rfl) (pk (by kernel_rfl) (pk (by kernel_rfl) (pd (by kernel_rfl) pn))) ?_
                          rintro v4_21 H4_21 ⟨n4_21, l4_21, bad4_21, hw4_21, hn4_21, rfl, hU4_21⟩
                          have m0_0 := m0_0.off hU4_21.but (nm0_0_mr)
                          have m1_2 := m1_2.off hU4_21.but (nmr_1_2.symm)
                          have m2_1 := m2_1.off hU4_21.but (nmr_2_1.symm)
                          have m4_27 := m4_27.off hU4_21.but (nmr_4_27.symm)
                          have hX := hX.upd hU4_21.but grd
                          have mr := hU4_21.blk
                          refine ⟨(okc (lv_load rfl rfl (ld_blk m2_1 rfl)) (okc (lv_load rfl rfl (ld_blk m2_1 rfl)) okn)), ?_⟩
                          refine xp_heavy (i := 23) (by kernel_rfl) ?_
                          refine xph_val rfl rfl rfl rfl (hv_call (g := 47) rfl rfl (c47 mr m1_2 nmr_1_2.symm) rfl) (pk (by kernel_rfl) (pd (by kernel_rfl) pn)) ?_
                          rintro v4_23 H4_23 ⟨n4_23, l4_23, bad4_23, hw4_23, hn4_23, rfl, hU4_23⟩
                          have m0_0 := m0_0.off hU4_23.but (nm0_0_mr)
                          have m1_2 := m1_2.off hU4_23.but (nmr_1_2.symm)
                          have m2_1 := m2_1.off hU4_23.but (nmr_2_1.symm)
                          have m4_27 := m4_27.off hU4_23.but (nmr_4_27.symm)
                          have hX := hX.upd hU4_23.but grd
                          have mr := hU4_23.blk
                          refine ⟨(okc (lv_load rfl rfl (ld_blk m2_1 rfl)) okn), ?_⟩
                          refine xp_heavy (i := 25) (by kernel_rfl) ?_
                          refine xph_val rfl rfl rfl rfl (hv_call (g := 47) rfl rfl (c47 mr m1_2 nmr_1_2.symm) rfl) (pd (by kernel_rfl) pn) ?_
                          rintro v4_25 H4_25 ⟨n4_25, l4_25, bad4_25, hw4_25, hn4_25, rfl, hU4_25⟩
                          have m0_0 := m0_0.off hU4_25.but (nm0_0_mr)
                          have m1_2 := m1_2.off hU4_25.but (nmr_1_2.symm)
                          have m2_1 := m2_1.off hU4_25.but (nmr_2_1.symm)
                          have m4_27 := m4_27.off hU4_25.but (nmr_4_27.symm)
                          have hX := hX.upd hU4_25.but grd
                          have mr := hU4_25.blk
                          refine ⟨okn, ?_⟩
                          refine xp_pure (i := 26) rfl (by kernel_rfl) (by kernel_rfl) rfl rfl rfl (pv_build_s (cs := dcs (mkD [(n4_1 : Int), (n4_3 : Int), (n4_5 : Int), (n4_7 : Int), (n4_9 : Int), (n4_11 : Int), (n4_13 : Int), (n4_15 : Int), (n4_17 : Int), (n4_19 : Int), (n4_21 : Int), (n4_23 : Int), (n4_25 : Int)] [] [] []) none none 0 0) rfl rfl (by kernel_rfl)) ?_
                          refine xp_heavy (i := 28) (by kernel_rfl) ?_
                          refine xph_store rfl rfl rfl (hv_storeA (vs := dcs (mkD [(n4_1 : Int), (n4_3 : Int), (n4_5 : Int), (n4_7 : Int), (n4_9 : Int), (n4_11 : Int), (n4_13 : Int), (n4_15 : Int), (n4_17 : Int), (n4_19 : Int), (n4_21 : Int), (n4_23 : Int), (n4_25 : Int)] [] [] []) none none 0 0) rfl rfl rfl (m4_27) rfl (by rfl) rfl) pn ?_
                          rintro v4_28 H4_28 ⟨hU4_28, hZ4_28⟩
                          have m0_0 := m0_0.off hU4_28.but (nm0_0_4_27)
                          have mr := mr.off hU4_28.but (nmr_4_27)
                          have m1_2 := m1_2.off hU4_28.but (nm1_2_4_27)
                          have m2_1 := m2_1.off hU4_28.but (nm2_1_4_27)
                          have hX := hX.upd hU4_28.but gb4_27
                          have m4_27 := hU4_28.blk
                          refine ⟨okn, ?_⟩
                          refine xp_done (by kernel_rfl) ?_
                          refine xthen_normal ?_
                          exact ⟨([(n4_1 : Int), (n4_3 : Int), (n4_5 : Int), (n4_7 : Int), (n4_9 : Int), (n4_11 : Int), (n4_13 : Int), (n4_15 : Int), (n4_17 : Int), (n4_19 : Int), (n4_21 : Int), (n4_23 : Int), (n4_25 : Int)], _, _, _), ⟨rfl, rfl, rfl, rfl, rfl, trivial⟩, ⟨rdU_13 hw4_1 hw4_3 hw4_5 hw4_7 hw4_9 hw4_11 hw4_13 hw4_15 hw4_17 hw4_19 hw4_21 hw4_23 hw4_25, m0_0, mr, m1_2, m2_1, m4_27, gb4_27, nm0_0_4_27, nmr_4_27, nm1_2_4_27, nm2_1_4_27, hX⟩⟩
                      · skip
                        refine xph_val rfl rfl rfl rfl (hv_alloc rfl rfl) (pk (by kernel_rfl) (pk (by kernel_rfl) (pk (by kernel_rfl) (pk (by kernel_rfl) pn)))) ?_
                        rintro v4_27 H4_27 ⟨b4_27, rfl, hN4_27⟩
                        have gb4_27 := hX.fresh hN4_27
                        have nm0_0_4_27 := m0_0.apart hN4_27
                        have nmr_4_27 := mr.apart hN4_27
                        have nm1_2_4_27 := m1_2.apart hN4_27
                        have nm2_1_4_27 := m2_1.apart hN4_27
                        have m0_0 := m0_0.ext hN4_27.ext
                        have mr := mr.ext hN4_27.ext
                        have m1_2 := m1_2.ext hN4_27.ext
                        have m2_1 := m2_1.ext hN4_27.ext
                        have hX := hX.trans hN4_27.ext
                        have m4_27 := hN4_27.blk
                        refine ⟨(okc (lv_load rfl rfl (ld_blk m2_1 rfl)) (okc (lv_load rfl rfl (ld_blk m2_1 rfl)) (okc (lv_load rfl rfl (ld_blk m2_1 rfl)) (okc (lv_load rfl rfl (ld_blk m2_1 rfl)) okn)))), ?_⟩
                        refine xp_heavy (i := 19) (by kernel_rfl) ?_
                        refine xph_val rfl rfl rfl rfl (hv_call (g := 47) rfl rfl (c47 mr m1_2 nmr_1_2.symm) rfl) (pk (by kernel_rfl) (pk (by kernel_rfl) (pk (by kernel_rfl) (pd (by kernel_rfl) pn)))) ?_
                        rintro v4_19 H4_19 ⟨n4_19, l4_19, bad4_19, hw4_19, hn4_19, rfl, hU4_19⟩
                        have m0_0 := m0_0.off hU4_19.but (nm0_0_mr)
                        have m1_2 := m1_2.off hU4_19.but (nmr_1_2.symm)
                        have m2_1 := m2_1.off hU4_19.but (nmr_2_1.symm)
                        have m4_27 := m4_27.off hU4_19.but (nmr_4_27.symm)
                        have hX := hX.upd hU4_19.but grd
                        have mr := hU4_19.blk
                        refine ⟨(okc (lv_load rfl rfl (ld_blk m2_1 rfl)) (okc (lv_load rfl rfl (ld_blk m2_1 rfl)) (okc (lv_load rfl rfl (ld_blk m2_1 rfl)) okn))), ?_⟩
                        refine xp_heavy (i := 21) (by kernel_rfl) ?_
                        refine xph_val rfl rfl rfl rfl (hv_call (g := 47) rfl rfl (c47 mr m1_2 nmr_1_2.symm) rfl) (pk (by kernel_rfl) (pk (by kernel_rfl) (pd (by kernel_rfl) pn))) ?_
                        rintro v4_21 H4_21 ⟨n4_21, l4_21, bad4_21, hw4_21, hn4_21, rfl, hU4_21⟩
                        have m0_0 := m0_0.off hU4_21.but (nm0_0_mr)
                        have m1_2 := m1_2.off hU4_21.but (nmr_1_2.symm)
                        have m2_1 := m2_1.off hU4_21.but (nmr_2_1.symm)
                        have m4_27 := m4_27.off hU4_21.but (nmr_4_27.symm)
                        have hX := hX.upd hU4_21.but grd
                        have mr := hU4_21.blk
                        refine ⟨(okc (lv_load rfl rfl (ld_blk m2_1 rfl)) (okc (lv_load rfl rfl (ld_blk m2_1 rfl)) okn)), ?_⟩
                        refine xp_heavy (i := 23) (by kernel_rfl) ?_
                        refine xph_val rfl rfl rfl rfl (hv_call (g := 47) rfl rfl (c47 mr m1_2 nmr_1_2.symm) rfl) (pk (by kernel_rfl) (pd (by kernel_rfl) pn)) ?_
                        rintro v4_23 H4_23 ⟨n4_23, l4_23, bad4_23, hw4_23, hn4_23, rfl, hU4_23⟩
                        have m0_0 := m0_0.off hU4_23.but (nm0_0_mr)
                        have m1_2 := m1_2.off hU4_23.but (nmr_1_2.symm)
                        have m2_1 := m2_1.off hU4_23.but (nmr_2_1.symm)
                        have m4_27 := m4_27.off hU4_23.but (nmr_4_27.symm)
                        have hX := hX.upd hU4_23.but grd
                        have mr := hU4_23.blk
                        refine ⟨(okc (lv_load rfl rfl (ld_blk m2_1 rfl)) okn), ?_⟩
                        refine xp_heavy (i := 25) (by kernel_rfl) ?_
                        refine xph_val rfl rfl rfl rfl (hv_call (g := 47) rfl rfl (c47 mr m1_2 nmr_1_2.symm) rfl) (pd (by kernel_rfl) pn) ?_
                        rintro v4_25 H4_25 ⟨n4_25, l4_25, bad4_25, hw4_25, hn4_25, rfl, hU4_25⟩
                        have m0_0 := m0_0.off hU4_25.but (nm0_0_mr)
                        have m1_2 := m1_2.off hU4_25.but (nmr_1_2.symm)
                        have m2_1 := m2_1.off hU4_25.but (nmr_2_1.symm)
                        have m4_27 := m4_27.off hU4_25.but (nmr_4_27.symm)
                        have hX := hX.upd hU4_25.but grd
                        have mr := hU4_25.blk
                        refine ⟨okn, ?_⟩
                        refine xp_pure (i := 26) rfl (by kernel_rfl) (by kernel_rfl) rfl rfl rfl (pv_build_s (cs := dcs (mkD [(n4_1 : Int), (n4_3 : Int), (n4_5 : Int), (n4_7 : Int), (n4_9 : Int), (n4_11 : Int), (n4_13 : Int), (n4_15 : Int), (n4_17 : Int), (n4_19 : Int), (n4_21 : Int), (n4_23 : Int), (n4_25 : Int)] [] [] []) none none 0 0) rfl rfl (by kernel_rfl)) ?_
                        refine xp_heavy (i := 28) (by kernel_rfl) ?_
                        refine xph_store rfl rfl rfl (hv_storeA (vs := dcs (mkD [(n4_1 : Int), (n4_3 : Int), (n4_5 : Int), (n4_7 : Int), (n4_9 : Int), (n4_11 : Int), (n4_13 : Int), (n4_15 : Int), (n4_17 : Int), (n4_19 : Int), (n4_21 : Int), (n4_23 : Int), (n4_25 : Int)] [] [] []) none none 0 0) rfl rfl rfl (m4_27) rfl (by rfl) rfl) pn ?_
                        rintro v4_28 H4_28 ⟨hU4_28, hZ4_28⟩
                        have m0_0 := m0_0.off hU4_28.but (nm0_0_4_27)
                        have mr := mr.off hU4_28.but (nmr_4_27)
                        have m1_2 := m1_2.off hU4_28.but (nm1_2_4_27)
                        have m2_1 := m2_1.off hU4_28.but (nm2_1_4_27)
                        have hX := hX.upd hU4_28.but gb4_27
                        have m4_27 := hU4_28.blk
                        refine ⟨okn, ?_⟩
                        refine xp_done (by kernel_rfl) ?_
                        refine xthen_normal ?_
                        exact ⟨([(n4_1 : Int), (n4_3 : Int), (n4_5 : Int), (n4_7 : Int), (n4_9 : Int), (n4_11 : Int), (n4_13 : Int), (n4_15 : Int), (n4_17 : Int), (n4_19 : Int), (n4_21 : Int), (n4_23 : Int), (n4_25 : Int)], _, _, _), ⟨rfl, rfl, rfl, rfl, rfl, trivial⟩, ⟨rdU_13 hw4_1 hw4_3 hw4_5 hw4_7 hw4_9 hw4_11 hw4_13 hw4_15 hw4_17 hw4_19 hw4_21 hw4_23 hw4_25, m0_0, mr, m1_2, m2_1, m4_27, gb4_27, nm0_0_4_27, nmr_4_27, nm1_2_4_27, nm2_1_4_27, hX⟩⟩
                    · skip
                      refine xph_val rfl rfl rfl rfl (hv_alloc rfl rfl) (pk (by kernel_rfl) (pk (by kernel_rfl) (pk (by kernel_rfl) (pk (by kernel_rfl) (pk (by kernel_rfl) pn))))) ?_
                      rintro v4_27 H4_27 ⟨b4_27, rfl, hN4_27⟩
                      have gb4_27 := hX.fresh hN4_27
                      have nm0_0_4_27 := m0_0.apart hN4_27
                      have nmr_4_27 := mr.apart hN4_27
                      have nm1_2_4_27 := m1_2.apart hN4_27
                      have nm2_1_4_27 := m2_1.apart hN4_27
                      have m0_0 := m0_0.ext hN4_27.ext
                      have mr := mr.ext hN4_27.ext
                      have m1_2 := m1_2.ext hN4_27.ext
                      have m2_1 := m2_1.ext hN4_27.ext
                      have hX := hX.trans hN4_27.ext
                      have m4_27 := hN4_27.blk
                      refine ⟨(okc (lv_load rfl rfl (ld_blk m2_1 rfl)) (okc (lv_load rfl rfl (ld_blk m2_1 rfl)) (okc (lv_load rfl rfl (ld_blk m2_1 rfl)) (okc (lv_load rfl rfl (ld_blk m2_1 rfl)) (okc (lv_load rfl rfl (ld_blk m2_1 rfl)) okn))))), ?_⟩
                      refine xp_heavy (i := 17) (by kernel_rfl) ?_
                      refine xph_val rfl rfl rfl rfl (hv_call (g := 47) rfl rfl (c47 mr m1_2 nmr_1_2.symm) rfl) (pk (by kernel_rfl) (pk (by kernel_rfl) (pk (by kernel_rfl) (pk (by kernel_rfl) (pd (by kernel_rfl) pn))))) ?_
                      rintro v4_17 H4_17 ⟨n4_17, l4_17, bad4_17, hw4_17, hn4_17, rfl, hU4_17⟩
                      have m0_0 := m0_0.off hU4_17.but (nm0_0_mr)
                      have m1_2 := m1_2.off hU4_17.but (nmr_1_2.symm)
                      have m2_1 := m2_1.off hU4_17.but (nmr_2_1.symm)
                      have m4_27 := m4_27.off hU4_17.but (nmr_4_27.symm)
                      have hX := hX.upd hU4_17.but grd
                      have mr := hU4_17.blk
                      refine ⟨(okc (lv_load rfl rfl (ld_blk m2_1 rfl)) (okc (lv_load rfl rfl (ld_blk m2_1 rfl)) (okc (lv_load rfl rfl (ld_blk m2_1 rfl)) (okc (lv_load rfl rfl (ld_blk m2_1 rfl)) okn)))), ?_⟩
                      refine xp_heavy (i := 19) (by kernel_rfl) ?_
                      refine xph_val rfl rfl rfl rfl (hv_call (g := 47) rfl rfl (c47 mr m1_2 nmr_1_2.symm) rfl) (pk (by kernel_rfl) (pk (by kernel_rfl) (pk (by kernel_rfl) (pd (by kernel_rfl) pn)))) ?_
                      rintro v4_19 H4_19 ⟨n4_19, l4_19, bad4_19, hw4_19, hn4_19, rfl, hU4_19⟩
                      have m0_0 := m0_0.off hU4_19.but (nm0_0_mr)
                      have m1_2 := m1_2.off hU4_19.but (nmr_1_2.symm)
                      have m2_1 := m2_1.off hU4_19.but (nmr_2_1.symm)
                      have m4_27 := m4_27.off hU4_19.but (nmr_4_27.symm)
                      have hX := hX.upd hU4_19.but grd
                      have mr := hU4_19.blk
                      refine ⟨(okc (lv_load rfl rfl (ld_blk m2_1 rfl)) (okc (lv_load rfl rfl (ld_blk m2_1 rfl)) (okc (lv_load rfl rfl (ld_blk m2_1 rfl)) okn))), ?_⟩
                      refine xp_heavy (i := 21) (by kernel_rfl) ?_
                      refine xph_val rfl rfl rfl rfl (hv_call (g := 47) rfl rfl (c47 mr m1_2 nmr_1_2.symm) rfl) (pk (by kernel_rfl) (pk (by kernel_rfl) (pd (by kernel_rfl) pn))) ?_
                      rintro v4_21 H4_21 ⟨n4_21, l4_21, bad4_21, hw4_21, hn4_21, rfl, hU4_21⟩
                      have m0_0 := m0_0.off hU4_21.but (nm0_0_mr)
                      have m1_2 := m1_2.off hU4_21.but (nmr_1_2.symm)
                      have m2_1 := m2_1.off hU4_21.but (nmr_2_1.symm)
                      have m4_27 := m4_27.off hU4_21.but (nmr_4_27.symm)
                      have hX := hX.upd hU4_21.but grd
                      have mr := hU4_21.blk
                      refine ⟨(okc (lv_load rfl rfl (ld_blk m2_1 rfl)) (okc (lv_load rfl rfl (ld_blk m2_1 rfl)) okn)), ?_⟩
                      refine xp_heavy (i := 23) (by kernel_rfl) ?_
                      refine xph_val rfl rfl rfl rfl (hv_call (g := 47) rfl rfl (c47 mr m1_2 nmr_1_2.symm) rfl) (pk (by kernel_rfl) (pd (by kernel_rfl) pn)) ?_
                      rintro v4_23 H4_23 ⟨n4_23, l4_23, bad4_23, hw4_23, hn4_23, rfl, hU4_23⟩
                      have m0_0 := m0_0.off hU4_23.but (nm0_0_mr)
                      have m1_2 := m1_2.off hU4_23.but (nmr_1_2.symm)
                      have m2_1 := m2_1.off hU4_23.but (nmr_2_1.symm)
                      have m4_27 := m4_27.off hU4_23.but (nmr_4_27.symm)
                      have hX := hX.upd hU4_23.but grd
                      have mr := hU4_23.blk
                      refine ⟨(okc (lv_load rfl rfl (ld_blk m2_1 rfl)) okn), ?_⟩
                      refine xp_heavy (i := 25) (by kernel_rfl) ?_
                      refine xph_val rfl rfl rfl rfl (hv_call (g := 47) rfl rfl (c47 mr m1_2 nmr_1_2.symm) rfl) (pd (by kernel_rfl) pn) ?_
                      rintro v4_25 H4_25 ⟨n4_25, l4_25, bad4_25, hw4_25, hn4_25, rfl, hU4_25⟩
                      have m0_0 := m0_0.off hU4_25.but (nm0_0_mr)
                      have m1_2 := m1_2.off hU4_25.but (nmr_1_2.symm)
                      have m2_1 := m2_1.off hU4_25.but (nmr_2_1.symm)
                      have m4_27 := m4_27.off hU4_25.but (nmr_4_27.symm)
                      have hX := hX.upd hU4_25.but grd
                      have mr := hU4_25.blk
                      refine ⟨okn, ?_⟩
                      refine xp_pure (i := 26) rfl (by kernel_rfl) (by kernel_rfl) rfl rfl rfl (pv_build_s (cs := dcs (mkD [(n4_1 : Int), (n4_3 : Int), (n4_5 : Int), (n4_7 : Int), (n4_9 : Int), (n4_11 : Int), (n4_13 : Int), (n4_15 : Int), (n4_17 : Int), (n4_19 : Int), (n4_21 : Int), (n4_23 : Int), (n4_25 : Int)] [] [] []) none none 0 0) rfl rfl (by kernel_rfl)) ?_
                      refine xp_heavy (i := 28) (by kernel_rfl) ?_
                      refine xph_store rfl rfl rfl (hv_storeA (vs := dcs (mkD [(n4_1 : Int), (n4_3 : Int), (n4_5 : Int), (n4_7 : Int), (n4_9 : Int), (n4_11 : Int), (n4_13 : Int), (n4_15 : Int), (n4_17 : Int), (n4_19 : Int), (n4_21 : Int), (n4_23 : Int), (n4_25 : Int)] [] [] []) none none 0 0) rfl rfl rfl (m4_27) rfl (by rfl) rfl) pn ?_
                      rintro v4_28 H4_28 ⟨hU4_28, hZ4_28⟩
                      have m0_0 := m0_0.off hU4_28.but (nm0_0_4_27)
                      have mr := mr.off hU4_28.but (nmr_4_27)
                      have m1_2 := m1_2.off hU4_28.but (nm1_2_4_27)
                      have m2_1 := m2_1.off hU4_28.but (nm2_1_4_27)
                      have hX := hX.upd hU4_28.but gb4_27
                      have m4_27 := hU4_28.blk
                      refine ⟨okn, ?_⟩
                      refine xp_done (by kernel_rfl) ?_
                      refine xthen_normal ?_
                      exact ⟨([(n4_1 : Int), (n4_3 : Int), (n4_5 : Int), (n4_7 : Int), (n4_9 : Int), (n4_11 : Int), (n4_13 : Int), (n4_15 : Int), (n4_17 : Int), (n4_19 : Int), (n4_21 : Int), (n4_23 : Int), (n4_25 : Int)], _, _, _), ⟨rfl, rfl, rfl, rfl, rfl, trivial⟩, ⟨rdU_13 hw4_1 hw4_3 hw4_5 hw4_7 hw4_9 hw4_11 hw4_13 hw4_15 hw4_17 hw4_19 hw4_21 hw4_23 hw4_25, m0_0, mr, m1_2, m2_1, m4_27, gb4_27, nm0_0_4_27, nmr_4_27, nm1_2_4_27, nm2_1_4_27, hX⟩⟩
                  · skip
                    refine xph_val rfl rfl rfl rfl (hv_alloc rfl rfl) (pk (by kernel_rfl) (pk (by kernel_rfl) (pk (by kernel_rfl) (pk (by kernel_rfl) (pk (by kernel_rfl) (pk (by kernel_rfl) pn)))))) ?_
                    rintro v4_27 H4_27 ⟨b4_27, rfl, hN4_27⟩
                    have gb4_27 := hX.fresh hN4_27
                    have nm0_0_4_27 := m0_0.apart hN4_27
                    have nmr_4_27 := mr.apart hN4_27
                    have nm1_2_4_27 := m1_2.apart hN4_27
                    have nm2_1_4_27 := m2_1.apart hN4_27
                    have m0_0 := m0_0.ext hN4_27.ext
                    have mr := mr.ext hN4_27.ext
                    have m1_2 := m1_2.ext hN4_27.ext
                    have m2_1 := m2_1.ext hN4_27.ext
                    have hX := hX.trans hN4_27.ext
                    have m4_27 := hN4_27.blk
                    refine ⟨(okc (lv_load rfl rfl (ld_blk m2_1 rfl)) (okc (lv_load rfl rfl (ld_blk m2_1 rfl)) (okc (lv_load rfl rfl (ld_blk m2_1 rfl)) (okc (lv_load rfl rfl (ld_blk m2_1 rfl)) (okc (lv_load rfl rfl (ld_blk m2_1 rfl)) (okc (lv_load rfl rfl (ld_blk m2_1 rfl)) okn)))))), ?_⟩
                    refine xp_heavy (i := 15) (by kernel_rfl) ?_
                    refine xph_val rfl rfl rfl rfl (hv_call (g := 47) rfl rfl (c47 mr m1_2 nmr_1_2.symm) rfl) (pk (by kernel_rfl) (pk (by kernel_rfl) (pk (by kernel_rfl) (pk (by kernel_rfl) (pk (by kernel_rfl) (pd (by kernel_rfl) pn)))))) ?_
                    rintro v4_15 H4_15 ⟨n4_15, l4_15, bad4_15, hw4_15, hn4_15, rfl, hU4_15⟩
                    have m0_0 := m0_0.off hU4_15.but (nm0_0_mr)
                    have m1_2 := m1_2.off hU4_15.but (nmr_1_2.symm)
                    have m2_1 := m2_1.off hU4_15.but (nmr_2_1.symm)
                    have m4_27 := m4_27.off hU4_15.but (nmr_4_27.symm)
                    have hX := hX.upd hU4_15.but grd
                    have mr := hU4_15.blk
                    refine ⟨(okc (lv_load rfl rfl (ld_blk m2_1 rfl)) (okc (lv_load rfl rfl (ld_blk m2_1 rfl)) (okc (lv_load rfl rfl (ld_blk m2_1 rfl)) (okc (lv_load rfl rfl (ld_blk m2_1 rfl)) (okc (lv_load rfl rfl (ld_blk m2_1 rfl)) okn))))), ?_⟩
                    refine xp_heavy (i := 17) (by kernel_rfl) ?_
                    refine xph_val rfl rfl rfl rfl (hv_call (g := 47) rfl rfl (c47 mr m1_2 nmr_1_2.symm) rfl) (pk (by kernel_rfl) (pk (by kernel_rfl) (pk (by kernel_rfl) (pk (by kernel_rfl) (pd (by kernel_rfl) pn))))) ?_
                    rintro v4_17 H4_17 ⟨n4_17, l4_17, bad4_17, hw4_17, hn4_17, rfl, hU4_17⟩
                    have m0_0 := m0_0.off hU4_17.but (nm0_0_mr)
                    have m1_2 := m1_2.off hU4_17.but (nmr_1_2.symm)
                    have m2_1 := m2_1.off hU4_17.but (nmr_2_1.symm)
                    have m4_27 := m4_27.off hU4_17.but (nmr_4_27.symm)
                    have hX := hX.upd hU4_17.but grd
                    have mr := hU4_17.blk
                    refine ⟨(okc (lv_load rfl rfl (ld_blk m2_1 rfl)) (okc (lv_load rfl rfl (ld_blk m2_1 rfl)) (okc (lv_load rfl rfl (ld_blk m2_1 rfl)) (okc (lv_load rfl rfl (ld_blk m2_1 rfl)) okn)))), ?_⟩
                    refine xp_heavy (i := 19) (by kernel_rfl) ?_
                    refine xph_val rfl rfl rfl rfl (hv_call (g := 47) rfl rfl (c47 mr m1_2 nmr_1_2.symm) rfl) (pk (by kernel_rfl) (pk (by kernel_rfl) (pk (by kernel_rfl) (pd (by kernel_rfl) pn)))) ?_
                    rintro v4_19 H4_19 ⟨n4_19, l4_19, bad4_19, hw4_19, hn4_19, rfl, hU4_19⟩
                    have m0_0 := m0_0.off hU4_19.but (nm0_0_mr)
                    have m1_2 := m1_2.off hU4_19.but (nmr_1_2.symm)
                    have m2_1 := m2_1.off hU4_19.but (nmr_2_1.symm)
                    have m4_27 := m4_27.off hU4_19.but (nmr_4_27.symm)
                    have hX := hX.upd hU4_19.but grd
                    have mr := hU4_19.blk
                    refine ⟨(okc (lv_load rfl rfl (ld_blk m2_1 rfl)) (okc (lv_load rfl rfl (ld_blk m2_1 rfl)) (okc (lv_load rfl rfl (ld_blk m2_1 rfl)) okn))), ?_⟩
                    refine xp_heavy (i := 21) (by kernel_rfl) ?_
                    refine xph_val rfl rfl rfl rfl (hv_call (g := 47) rfl rfl (c47 mr m1_2 nmr_1_2.symm) rfl) (pk (by kernel_rfl) (pk (by kernel_rfl) (pd (by kernel_rfl) pn))) ?_
                    rintro v4_21 H4_21 ⟨n4_21, l4_21, bad4_21, hw4_21, hn4_21, rfl, hU4_21⟩
                    have m0_0 := m0_0.off hU4_21.but (nm0_0_mr)
                    have m1_2 := m1_2.off hU4_21.but (nmr_1_2.symm)
                    have m2_1 := m2_1.off hU4_21.but (nmr_2_1.symm)
                    have m4_27 := m4_27.off hU4_21.but (nmr_4_27.symm)
                    have hX := hX.upd hU4_21.but grd
                    have mr := hU4_21.blk
                    refine ⟨(okc (lv_load rfl rfl (ld_blk m2_1 rfl)) (okc (lv_load rfl rfl (ld_blk m2_1 rfl)) okn)), ?_⟩
                    refine xp_heavy (i := 23) (by kernel_rfl) ?_
                    refine xph_val rfl rfl rfl rfl (hv_call (g := 47) rfl rfl (c47 mr m1_2 nmr_1_2.symm) rfl) (pk (by kernel_rfl) (pd (by kernel_rfl) pn)) ?_
                    rintro v4_23 H4_23 ⟨n4_23, l4_23, bad4_23, hw4_23, hn4_23, rfl, hU4_23⟩
                    have m0_0 := m0_0.off hU4_23.but (nm0_0_mr)
                    have m1_2 := m1_2.off hU4_23.but (nmr_1_2.symm)
                    have m2_1 := m2_1.off hU4_23.but (nmr_2_1.symm)
                    have m4_27 := m4_27.off hU4_23.but (nmr_4_27.symm)
                    have hX := hX.upd hU4_23.but grd
                    have mr := hU4_23.blk
                    refine ⟨(okc (lv_load rfl rfl (ld_blk m2_1 rfl)) okn), ?_⟩
                    refine xp_heavy (i := 25) (by kernel_rfl) ?_
                    refine xph_val rfl rfl rfl rfl (hv_call (g := 47) rfl rfl (c47 mr m1_2 nmr_1_2.symm) rfl) (pd (by kernel_rfl) pn) ?_
                    rintro v4_25 H4_25 ⟨n4_25, l4_25, bad4_25, hw4_25, hn4_25, rfl, hU4_25⟩
                    have m0_0 := m0_0.off hU4_25.but (nm0_0_mr)
                    have m1_2 := m1_2.off hU4_25.but (nmr_1_2.symm)
                    have m2_1 := m2_1.off hU4_25.but (nmr_2_1.symm)
                    have m4_27 := m4_27.off hU4_25.but (nmr_4_27.symm)
                    have hX := hX.upd hU4_25.but grd
                    have mr := hU4_25.blk
                    refine ⟨okn, ?_⟩
                    refine xp_pure (i := 26) rfl (by kernel_rfl) (by kernel_rfl) rfl rfl rfl (pv_build_s (cs := dcs (mkD [(n4_1 : Int), (n4_3 : Int), (n4_5 : Int), (n4_7 : Int), (n4_9 : Int), (n4_11 : Int), (n4_13 : Int), (n4_15 : Int), (n4_17 : Int), (n4_19 : Int), (n4_21 : Int), (n4_23 : Int), (n4_25 : Int)] [] [] []) none none 0 0) rfl rfl (by kernel_rfl)) ?_
                    refine xp_heavy (i := 28) (by kernel_rfl) ?_
                    refine xph_store rfl rfl rfl (hv_storeA (vs := dcs (mkD [(n4_1 : Int), (n4_3 : Int), (n4_5 : Int), (n4_7 : Int), (n4_9 : Int), (n4_11 : Int), (n4_13 : Int), (n4_15 : Int), (n4_17 : Int), (n4_19 : Int), (n4_21 : Int), (n4_23 : Int), (n4_25 : Int)] [] [] []) none none 0 0) rfl rfl rfl (m4_27) rfl (by rfl) rfl) pn ?_
                    rintro v4_28 H4_28 ⟨hU4_28, hZ4_28⟩
                    have m0_0 := m0_0.off hU4_28.but (nm0_0_4_27)
                    have mr := mr.off hU4_28.but (nmr_4_27)
                    have m1_2 := m1_2.off hU4_28.but (nm1_2_4_27)
                    have m2_1 := m2_1.off hU4_28.but (nm2_1_4_27)
                    have hX := hX.upd hU4_28.but gb4_27
                    have m4_27 := hU4_28.blk
                    refine ⟨okn, ?_⟩
                    refine xp_done (by kernel_rfl) ?_
                    refine xthen_normal ?_
                    exact ⟨([(n4_1 : Int), (n4_3 : Int), (n4_5 : Int), (n4_7 : Int), (n4_9 : Int), (n4_11 : Int), (n4_13 : Int), (n4_15 : Int), (n4_17 : Int), (n4_19 : Int), (n4_21 : Int), (n4_23 : Int), (n4_25 : Int)], _, _, _), ⟨rfl, rfl, rfl, rfl, rfl, trivial⟩, ⟨rdU_13 hw4_1 hw4_3 hw4_5 hw4_7 hw4_9 hw4_11 hw4_13 hw4_15 hw4_17 hw4_19 hw4_21 hw4_23 hw4_25, m0_0, mr, m1_2, m2_1, m4_27, gb4_27, nm0_0_4_27, nmr_4_27, nm1_2_4_27, nm2_1_4_27, hX⟩⟩
                · skip
                  refine xph_val rfl rfl rfl rfl (hv_alloc rfl rfl) (pk (by kernel_rfl) (pk (by kernel_rfl) (pk (by kernel_rfl) (pk (by kernel_rfl) (pk (by kernel_rfl) (pk (by kernel_rfl) (pk (by kernel_rfl) pn))))))) ?_
                  rintro v4_27 H4_27 ⟨b4_27, rfl, hN4_27⟩
                  have gb4_27 := hX.fresh hN4_27
                  have nm0_0_4_27 := m0_0.apart hN4_27
                  have nmr_4_27 := mr.apart hN4_27
                  have nm1_2_4_27 := m1_2.apart hN4_27
                  have nm2_1_4_27 := m2_1.apart hN4_27
                  have m0_0 := m0_0.ext hN4_27.ext
                  have mr := mr.ext hN4_27.ext
                  have m1_2 := m1_2.ext hN4_27.ext
                  have m2_1 := m2_1.ext hN4_27.ext
                  have hX := hX.trans hN4_27.ext
                  have m4_27 := hN4_27.blk
                  refine ⟨(okc (lv_load rfl rfl (ld_blk m2_1 rfl)) (okc (lv_load rfl rfl (ld_blk m2_1 rfl)) (okc (lv_load rfl rfl (ld_blk m2_1 rfl)) (okc (lv_load rfl rfl (ld_blk m2_1 rfl)) (okc (lv_load rfl rfl (ld_blk m2_1 rfl)) (okc (lv_load rfl rfl (ld_blk m2_1 rfl)) (okc (lv_load rfl rfl (ld_blk m2_1 rfl)) okn))))))), ?_⟩
                  refine xp_heavy (i := 13) (by kernel_rfl) ?_
                  refine xph_val rfl rfl rfl rfl (hv_call (g := 47) rfl rfl (c47 mr m1_2 nmr_1_2.symm) rfl) (pk (by kernel_rfl) (pk (by kernel_rfl) (pk (by kernel_rfl) (pk (by kernel_rfl) (pk (by kernel_rfl) (pk (by kernel_rfl) (pd (by kernel_rfl) pn))))))) ?_
                  rintro v4_13 H4_13 ⟨n4_13, l4_13, bad4_13, hw4_13, hn4_13, rfl, hU4_13⟩
                  have m0_0 := m0_0.off hU4_13.but (nm0_0_mr)
                  have m1_2 := m1_2.off hU4_13.but (nmr_1_2.symm)
                  have m2_1 := m2_1.off hU4_13.but (nmr_2_1.symm)
                  have m4_27 := m4_27.off hU4_13.but (nmr_4_27.symm)
                  have hX := hX.upd hU4_13.but grd
                  have mr := hU4_13.blk
                  refine ⟨(okc (lv_load rfl rfl (ld_blk m2_1 rfl)) (okc (lv_load rfl rfl (ld_blk m2_1 rfl)) (okc (lv_load rfl rfl (ld_blk m2_1 rfl)) (okc (lv_load rfl rfl (ld_blk m2_1 rfl)) (okc (lv_load rfl rfl (ld_blk m2_1 rfl)) (okc (lv_load rfl rfl (ld_blk m2_1 rfl)) okn)))))), ?_⟩
                  refine xp_heavy (i := 15) (by kernel_rfl) ?_
                  refine xph_val rfl rfl rfl rfl (hv_call (g := 47) rfl rfl (c47 mr m1_2 nmr_1_2.symm) rfl) (pk (by kernel_rfl) (pk (by kernel_rfl) (pk (by kernel_rfl) (pk (by kernel_rfl) (pk (by kernel_rfl) (pd (by kernel_rfl) pn)))))) ?_
                  rintro v4_15 H4_15 ⟨n4_15, l4_15, bad4_15, hw4_15, hn4_15, rfl, hU4_15⟩
                  have m0_0 := m0_0.off hU4_15.but (nm0_0_mr)
                  have m1_2 := m1_2.off hU4_15.but (nmr_1_2.symm)
                  have m2_1 := m2_1.off hU4_15.but (nmr_2_1.symm)
                  have m4_27 := m4_27.off hU4_15.but (nmr_4_27.symm)
                  have hX := hX.upd hU4_15.but grd
                  have mr := hU4_15.blk
                  refine ⟨(okc (lv_load rfl rfl (ld_blk m2_1 rfl)) (okc (lv_load rfl rfl (ld_blk m2_1 rfl)) (okc (lv_load rfl rfl (ld_blk m2_1 rfl)) (okc (lv_load rfl rfl (ld_blk m2_1 rfl)) (okc (lv_load rfl rfl (ld_blk m2_1 rfl)) okn))))), ?_⟩
                  refine xp_heavy (i := 17) (by kernel_rfl) ?_
                  refine xph_val rfl rfl rfl rfl (hv_call (g := 47) rfl rfl (c47 mr m1_2 nmr_1_2.symm) rfl) (pk (by kernel_rfl) (pk (by kernel_rfl) (pk (by kernel_rfl) (pk (by kernel_rfl) (pd (by kernel_rfl) pn))))) ?_
                  rintro v4_17 H4_17 ⟨n4_17, l4_17, bad4_17, hw4_17, hn4_17, rfl, hU4_17⟩
                  have m0_0 := m0_0.off hU4_17.but (nm0_0_mr)
                  have m1_2 := m1_2.off hU4_17.but (nmr_1_2.symm)
                  have m2_1 := m2_1.off hU4_17.but (nmr_2_1.symm)
                  have m4_27 := m4_27.off hU4_17.but (nmr_4_27.symm)
                  have hX := hX.upd hU4_17.but grd
                  have mr := hU4_17.blk
                  refine ⟨(okc (lv_load rfl rfl (ld_blk m2_1 rfl)) (okc (lv_load rfl rfl (ld_blk m2_1 rfl)) (okc (lv_load rfl rfl (ld_blk m2_1 rfl)) (okc (lv_load rfl rfl (ld_blk m2_1 rfl)) okn)))), ?_⟩
                  refine xp_heavy (i := 19) (by kernel_rfl) ?_
                  refine xph_val rfl rfl rfl rfl (hv_call (g := 47) rfl rfl (c47 mr m1_2 nmr_1_2.symm) rfl) (pk (by kernel_rfl) (pk (by kernel_rfl) (pk (by kernel_rfl) (pd (by kernel_rfl) pn)))) ?_
                  rintro v4_19 H4_19 ⟨n4_19, l4_19, bad4_19, hw4_19, hn4_19, rfl, hU4_19⟩
                  have m0_0 := m0_0.off hU4_19.but (nm0_0_mr)
                  have m1_2 := m1_2.off hU4_19.but (nmr_1_2.symm)
                  have m2_1 := m2_1.off hU4_19.but (nmr_2_1.symm)
                  have m4_27 := m4_27.off hU4_19.but (nmr_4_27.symm)
                  have hX := hX.upd hU4_19.but grd
                  have mr := hU4_19.blk
                  refine ⟨(okc (lv_load rfl rfl (ld_blk m2_1 rfl)) (okc (lv_load rfl rfl (ld_blk m2_1 rfl)) (okc (lv_load rfl rfl (ld_blk m2_1 rfl)) okn))), ?_⟩
                  refine xp_heavy (i := 21) (by kernel_rfl) ?_
                  refine xph_val rfl rfl rfl rfl (hv_call (g := 47) rfl rfl (c47 mr m1_2 nmr_1_2.symm) rfl) (pk (by kernel_rfl) (pk (by kernel_rfl) (pd (by kernel_rfl) pn))) ?_
                  rintro v4_21 H4_21 ⟨n4_21, l4_21, bad4_21, hw4_21, hn4_21, rfl, hU4_21⟩
                  have m0_0 := m0_0.off hU4_21.but (nm0_0_mr)
                  have m1_2 := m1_2.off hU4_21.but (nmr_1_2.symm)
                  have m2_1 := m2_1.off hU4_21.but (nmr_2_1.symm)
                  have m4_27 := m4_27.off hU4_21.but (nmr_4_27.symm)
                  have hX := hX.upd hU4_21.but grd
                  have mr := hU4_21.blk
                  refine ⟨(okc (lv_load rfl rfl (ld_blk m2_1 rfl)) (okc (lv_load rfl rfl (ld_blk m2_1 rfl)) okn)), ?_⟩
                  refine xp_heavy (i := 23) (by kernel_rfl) ?_
                  refine xph_val rfl rfl rfl rfl (hv_call (g := 47) rfl rfl (c47 mr m1_2 nmr_1_2.symm) rfl) (pk (by kernel_rfl) (pd (by kernel_rfl) pn)) ?_
                  rintro v4_23 H4_23 ⟨n4_23, l4_23, bad4_23, hw4_23, hn4_23, rfl, hU4_23⟩
                  have m0_0 := m0_0.off hU4_23.but (nm0_0_mr)
                  have m1_2 := m1_2.off hU4_23.but (nmr_1_2.symm)
                  have m2_1 := m2_1.off hU4_23.but (nmr_2_1.symm)
                  have m4_27 := m4_27.off hU4_23.but (nmr_4_27.symm)
                  have hX := hX.upd hU4_23.but grd
                  have mr := hU4_23.blk
                  refine ⟨(okc (lv_load rfl rfl (ld_blk m2_1 rfl)) okn), ?_⟩
                  refine xp_heavy (i := 25) (by kernel_rfl) ?_
                  refine xph_val rfl rfl rfl rfl (hv_call (g := 47) rfl rfl (c47 mr m1_2 nmr_1_2.symm) rfl) (pd (by kernel_rfl) pn) ?_
                  rintro v4_25 H4_25 ⟨n4_25, l4_25, bad4_25, hw4_25, hn4_25, rfl, hU4_25⟩
                  have m0_0 := m0_0.off hU4_25.but (nm0_0_mr)
                  have m1_2 := m1_2.off hU4_25.but (nmr_1_2.symm)
                  have m2_1 := m2_1.off hU4_25.but (nmr_2_1.symm)
                  have m4_27 := m4_27.off hU4_25.but (nmr_4_27.symm)
                  have hX := hX.upd hU4_25.but grd
                  have mr := hU4_25.blk
                  refine ⟨okn, ?_⟩
                  refine xp_pure (i := 26) rfl (by kernel_rfl) (by kernel_rfl) rfl rfl rfl (pv_build_s (cs := dcs (mkD [(n4_1 : Int), (n4_3 : Int), (n4_5 : Int), (n4_7 : Int), (n4_9 : Int), (n4_11 : Int), (n4_13 : Int), (n4_15 : Int), (n4_17 : Int), (n4_19 : Int), (n4_21 : Int), (n4_23 : Int), (n4_25 : Int)] [] [] []) none none 0 0) rfl rfl (by kernel_rfl)) ?_
                  refine xp_heavy (i := 28) (by kernel_rfl) ?_
                  refine xph_store rfl rfl rfl (hv_storeA (vs := dcs (mkD [(n4_1 : Int), (n4_3 : Int), (n4_5 : Int), (n4_7 : Int), (n4_9 : Int), (n4_11 : Int), (n4_13 : Int), (n4_15 : Int), (n4_17 : Int), (n4_19 : Int), (n4_21 : Int), (n4_23 : Int), (n4_25 : Int)] [] [] []) none none 0 0) rfl rfl rfl (m4_27) rfl (by rfl) rfl) pn ?_
                  rintro v4_28 H4_28 ⟨hU4_28, hZ4_28⟩
                  have m0_0 := m0_0.off hU4_28.but (nm0_0_4_27)
                  have mr := mr.off hU4_28.but (nmr_4_27)
                  have m1_2 := m1_2.off hU4_28.but (nm1_2_4_27)
                  have m2_1 := m2_1.off hU4_28.but (nm2_1_4_27)
                  have hX := hX.upd hU4_28.but gb4_27
                  have m4_27 := hU4_28.blk
                  refine ⟨okn, ?_⟩
                  refine xp_done (by kernel_rfl) ?_
                  refine xthen_normal ?_
                  exact ⟨([(n4_1 : Int), (n4_3 : Int), (n4_5 : Int), (n4_7 : Int), (n4_9 : Int), (n4_11 : Int), (n4_13 : Int), (n4_15 : Int), (n4_17 : Int), (n4_19 : Int), (n4_21 : Int), (n4_23 : Int), (n4_25 : Int)], _, _, _), ⟨rfl, rfl, rfl, rfl, rfl, trivial⟩, ⟨rdU_13 hw4_1 hw4_3 hw4_5 hw4_7 hw4_9 hw4_11 hw4_13 hw4_15 hw4_17 hw4_19 hw4_21 hw4_23 hw4_25, m0_0, mr, m1_2, m2_1, m4_27, gb4_27, nm0_0_4_27, nmr_4_27, nm1_2_4_27, nm2_1_4_27, hX⟩⟩
              · skip
                refine xph_val rfl rfl rfl rfl (hv_alloc rfl rfl) (pk (by kernel_rfl) (pk (by kernel_rfl) (pk (by kernel_rfl) (pk (by kernel_rfl) (pk (by kernel_rfl) (pk (by kernel_rfl) (pk (by kernel_rfl) (pk (by kernel_rfl) pn)))))))) ?_
                rintro v4_27 H4_27 ⟨b4_27, rfl, hN4_27⟩
                have gb4_27 := hX.fresh hN4_27
                have nm0_0_4_27 := m0_0.apart hN4_27
                have nmr_4_27 := mr.apart hN4_27
                have nm1_2_4_27 := m1_2.apart hN4_27
                have nm2_1_4_27 := m2_1.apart hN4_27
                have m0_0 := m0_0.ext hN4_27.ext
                have mr := mr.ext hN4_27.ext
                have m1_2 := m1_2.ext hN4_27.ext
                have m2_1 := m2_1.ext hN4_27.ext
                have hX := hX.trans hN4_27.ext
                have m4_27 := hN4_27.blk
                refine ⟨(okc (lv_load rfl rfl (ld_blk m2_1 rfl)) (okc (lv_load rfl rfl (ld_blk m2_1 rfl)) (okc (lv_load rfl rfl (ld_blk m2_1 rfl)) (okc (lv_load rfl rfl (ld_blk m2_1 rfl)) (okc (lv_load rfl rfl (ld_blk m2_1 rfl)) (okc (lv_load rfl rfl (ld_blk m2_1 rfl)) (okc (lv_load rfl rfl (ld_blk m2_1 rfl)) (okc (lv_load rfl rfl (ld_blk m2_1 rfl)) okn)))))))), ?_⟩
                refine xp_heavy (i := 11) (by kernel_rfl) ?_
                refine xph_val rfl rfl rfl rfl (hv_call (g := 47) rfl rfl (c47 mr m1_2 nmr_1_2.symm) rfl) (pk (by kernel_rfl) (pk (by kernel_rfl) (pk (by kernel_rfl) (pk (by kernel_rfl) (pk (by kernel_rfl) (pk (by kernel_rfl) (pk (by kernel_rfl) (pd (by kernel_rfl) pn)))))))) ?_
                rintro v4_11 H4_11 ⟨n4_11, l4_11, bad4_11, hw4_11, hn4_11, rfl, hU4_11⟩
                have m0_0 := m0_0.off hU4_11.but (nm0_0_mr)
                have m1_2 := m1_2.off hU4_11.but (nmr_1_2.symm)
                have m2_1 := m2_1.off hU4_11.but (nmr_2_1.symm)
                have m4_27 := m4_27.off hU4_11.but (nmr_4_27.symm)
                have hX := hX.upd hU4_11.but grd
                have mr := hU4_11.blk
                refine ⟨(okc (lv_load rfl rfl (ld_blk m2_1 rfl)) (okc (lv_load rfl rfl (ld_blk m2_1 rfl)) (okc (lv_load rfl rfl (ld_blk m2_1 rfl)) (okc (lv_load rfl rfl (ld_blk m2_1 rfl)) (okc (lv_load rfl rfl (ld_blk m2_1 rfl)) (okc (lv_load rfl rfl (ld_blk m2_1 rfl)) (okc (lv_load rfl rfl (ld_blk m2_1 rfl)) okn))))))), ?_⟩
                refine xp_heavy (i := 13) (by kernel_rfl) ?_
                refine xph_val rfl rfl rfl rfl (hv_call (g := 47) rfl rfl (c47 mr m1_2 nmr_1_2.symm) rfl) (pk (by kernel_rfl) (pk (by kernel_rfl) (pk (by kernel_rfl) (pk (by kernel_rfl) (pk (by kernel_rfl) (pk (by kernel_rfl) (pd (by kernel_rfl) pn))))))) ?_
                rintro v4_13 H4_13 ⟨n4_13, l4_13, bad4_13, hw4_13, hn4_13, rfl, hU4_13⟩
                have m0_0 := m0_0.off hU4_13.but (nm0_0_mr)
                have m1_2 := m1_2.off hU4_13.but (nmr_1_2.symm)
                have m2_1 := m2_1.off hU4_13.but (nmr_2_1.symm)
                have m4_27 := m4_27.off hU4_13.but (nmr_4_27.symm)
                have hX := hX.upd hU4_13.but grd
                have mr := hU4_13.blk
                refine ⟨(okc (lv_load rfl rfl (ld_blk m2_1 rfl)) (okc (lv_load rfl rfl (ld_blk m2_1 rfl)) (okc (lv_load rfl rfl (ld_blk m2_1 rfl)) (okc (lv_load rfl rfl (ld_blk m2_1 rfl)) (okc (lv_load rfl rfl (ld_blk m2_1 rfl)) (okc (lv_load rfl rfl (ld_blk m2_1 rfl)) okn)))))), ?_⟩
                refine xp_heavy (i := 15) (by kernel_rfl) ?_
                refine xph_val rfl rfl rfl rfl (hv_call (g := 47) rfl rfl (c47 mr m1_2 nmr_1_2.symm) rfl) (pk (by kernel_rfl) (pk (by kernel_rfl) (pk (by kernel_rfl) (pk (by kernel_rfl) (pk (by kernel_rfl) (pd (by kernel_rfl) pn)))))) ?_
                rintro v4_15 H4_15 ⟨n4_15, l4_15, bad4_15, hw4_15, hn4_15, rfl, hU4_15⟩
                have m0_0 := m0_0.off hU4_15.but (nm0_0_mr)
                have m1_2 := m1_2.off hU4_15.but (nmr_1_2.symm)
                have m2_1 := m2_1.off hU4_15.but (nmr_2_1.symm)
                have m4_27 := m4_27.off hU4_15.but (nmr_4_27.symm)
                have hX := hX.upd hU4_15.but grd
                have mr := hU4_15.blk
                refine ⟨(okc (lv_load rfl rfl (ld_blk m2_1 rfl)) (okc (lv_load rfl rfl (ld_blk m2_1 rfl)) (okc (lv_load rfl rfl (ld_blk m2_1 rfl)) (okc (lv_load rfl rfl (ld_blk m2_1 rfl)) (okc (lv_load rfl rfl (ld_blk m2_1 rfl)) okn))))), ?_⟩
                refine xp_heavy (i := 17) (by kernel_rfl) ?_
                refine xph_val rfl rfl rfl rfl (hv_call (g := 47) rfl rfl (c47 mr m1_2 nmr_1_2.symm) rfl) (pk (by kernel_rfl) (pk (by kernel_rfl) (pk (by kernel_rfl) (pk (by kernel_rfl) (pd (by kernel_rfl) pn))))) ?_
                rintro v4_17 H4_17 ⟨n4_17, l4_17, bad4_17, hw4_17, hn4_17, rfl, hU4_17⟩
                have m0_0 := m0_0.off hU4_17.but (nm0_0_mr)
                have m1_2 := m1_2.off hU4_17.but (nmr_1_2.symm)
                have m2_1 := m2_1.off hU4_17.but (nmr_2_1.symm)
                have m4_27 := m4_27.off hU4_17.but (nmr_4_27.symm)
                have hX := hX.upd hU4_17.but grd
                have mr := hU4_17.blk
                refine ⟨(okc (lv_load rfl rfl (ld_blk m2_1 rfl)) (okc (lv_load rfl rfl (ld_blk m2_1 rfl)) (okc (lv_load rfl rfl (ld_blk m2_1 rfl)) (okc (lv_load rfl rfl (ld_blk m2_1 rfl)) okn)))), ?_⟩
                refine xp_heavy (i := 19) (by kernel_rfl) ?_
                refine xph_val rfl rfl rfl rfl (hv_call (g := 47) rfl rfl (c47 mr m1_2 nmr_1_2.symm) rfl) (pk (by kernel_rfl) (pk (by kernel_rfl) (pk (by kernel_rfl) (pd (by kernel_rfl) pn)))) ?_
                rintro v4_19 H4_19 ⟨n4_19, l4_19, bad4_19, hw4_19, hn4_19, rfl, hU4_19⟩
                have m0_0 := m0_0.off hU4_19.but (nm0_0_mr)
                have m1_2 := m1_2.off hU4_19.but (nmr_1_2.symm)
                have m2_1 := m2_1.off hU4_19.but (nmr_2_1.symm)
                have m4_27 := m4_27.off hU4_19.but (nmr_4_27.symm)
                have hX := hX.upd hU4_19.but grd
                have mr := hU4_19.blk
                refine ⟨(okc (lv_load rfl rfl (ld_blk m2_1 rfl)) (okc (lv_load rfl rfl (ld_blk m2_1 rfl)) (okc (lv_load rfl rfl (ld_blk m2_1 rfl)) okn))), ?_⟩
                refine xp_heavy (i := 21) (by kernel_rfl) ?_
                refine xph_val rfl rfl rfl rfl (hv_call (g := 47) rfl rfl (c47 mr m1_2 nmr_1_2.symm) rfl) (pk (by kernel_rfl) (pk (by kernel_rfl) (pd (by kernel_rfl) pn))) ?_
                rintro v4_21 H4_21 ⟨n4_21, l4_21, bad4_21, hw4_21, hn4_21, rfl, hU4_21⟩
                have m0_0 := m0_0.off hU4_21.but (nm0_0_mr)
                have m1_2 := m1_2.off hU4_21.but (nmr_1_2.symm)
                have m2_1 := m2_1.off hU4_21.but (nmr_2_1.symm)
                have m4_27 := m4_27.off hU4_21.but (nmr_4_27.symm)
                have hX := hX.upd hU4_21.but grd
                have mr := hU4_21.blk
                refine ⟨(okc (lv_load rfl rfl (ld_blk m2_1 rfl)) (okc (lv_load rfl rfl (ld_blk m2_1 rfl)) okn)), ?_⟩
                refine xp_heavy (i := 23) (by kernel_rfl) ?_
                refine xph_val rfl rfl rfl rfl (hv_call (g := 47) rfl rfl (c47 mr m1_2 nmr_1_2.symm) rfl) (pk (by kernel_rfl) (pd (by kernel_rfl) pn)) ?_
                rintro v4_23 H4_23 ⟨n4_23, l4_23, bad4_23, hw4_23, hn4_23, rfl, hU4_23⟩
                have m0_0 := m0_0.off hU4_23.but (nm0_0_mr)
                have m1_2 := m1_2.off hU4_23.but (nmr_1_2.symm)
                have m2_1 := m2_1.off hU4_23.but (nmr_2_1.symm)
                have m4_27 := m4_27.off hU4_23.but (nmr_4_27.symm)
                have hX := hX.upd hU4_23.but grd
                have mr := hU4_23.blk
                refine ⟨(okc (lv_load rfl rfl (ld_blk m2_1 rfl)) okn), ?_⟩
                refine xp_heavy (i := 25) (by kernel_rfl) ?_
                refine xph_val rfl rfl rfl rfl (hv_call (g := 47) rfl rfl (c47 mr m1_2 nmr_1_2.symm) rfl) (pd (by kernel_rfl) pn) ?_
                rintro v4_25 H4_25 ⟨n4_25, l4_25, bad4_25, hw4_25, hn4_25, rfl, hU4_25⟩
                have m0_0 := m0_0.off hU4_25.but (nm0_0_mr)
                have m1_2 := m1_2.off hU4_25.but (nmr_1_2.symm)
                have m2_1 := m2_1.off hU4_25.but (nmr_2_1.symm)
                have m4_27 := m4_27.off hU4_25.but (nmr_4_27.symm)
                have hX := hX.upd hU4_25.but grd
                have mr := hU4_25.blk
                refine ⟨okn, ?_⟩
                refine xp_pure (i := 26) rfl (by kernel_rfl) (by kernel_rfl) rfl rfl rfl (pv_build_s (cs := dcs (mkD [(n4_1 : Int), (n4_3 : Int), (n4_5 : Int), (n4_7 : Int), (n4_9 : Int), (n4_11 : Int), (n4_13 : Int), (n4_15 : Int), (n4_17 : Int), (n4_19 : Int), (n4_21 : Int), (n4_23 : Int), (n4_25 : Int)] [] [] []) none none 0 0) rfl rfl (by kernel_rfl)) ?_
                refine xp_heavy (i := 28) (by kernel_rfl) ?_
                refine xph_store rfl rfl rfl (hv_storeA (vs := dcs (mkD [(n4_1 : Int), (n4_3 : Int), (n4_5 : Int), (n4_7 : Int), (n4_9 : Int), (n4_11 : Int), (n4_13 : Int), (n4_15 : Int), (n4_17 : Int), (n4_19 : Int), (n4_21 : Int), (n4_23 : Int), (n4_25 : Int)] [] [] []) none none 0 0) rfl rfl rfl (m4_27) rfl (by rfl) rfl) pn ?_
                rintro v4_28 H4_28 ⟨hU4_28, hZ4_28⟩
                have m0_0 := m0_0.off hU4_28.but (nm0_0_4_27)
                have mr := mr.off hU4_28.but (nmr_4_27)
                have m1_2 := m1_2.off hU4_28.but (nm1_2_4_27)
                have m2_1 := m2_1.off hU4_28.but (nm2_1_4_27)
                have hX := hX.upd hU4_28.but gb4_27
                have m4_27 := hU4_28.blk
                refine ⟨okn, ?_⟩
                refine xp_done (by kernel_rfl) ?_
                refine xthen_normal ?_
                exact ⟨([(n4_1 : Int), (n4_3 : Int), (n4_5 : Int), (n4_7 : Int), (n4_9 : Int), (n4_11 : Int), (n4_13 : Int), (n4_15 : Int), (n4_17 : Int), (n4_19 : Int), (n4_21 : Int), (n4_23 : Int), (n4_25 : Int)], _, _, _), ⟨rfl, rfl, rfl, rfl, rfl, trivial⟩, ⟨rdU_13 hw4_1 hw4_3 hw4_5 hw4_7 hw4_9 hw4_11 hw4_13 hw4_15 hw4_17 hw4_19 hw4_21 hw4_23 hw4_25, m0_0, mr, m1_2, m2_1, m4_27, gb4_27, nm0_0_4_27, nmr_4_27, nm1_2_4_27, nm2_1_4_27, hX⟩⟩
            · skip
              refine xph_val rfl rfl rfl rfl (hv_alloc rfl rfl) (pk (by kernel_rfl) (pk (by kernel_rfl) (pk (by kernel_rfl) (pk (by kernel_rfl) (pk (by kernel_rfl) (pk (by kernel_rfl) (pk (by kernel_rfl) (pk (by kernel_rfl) (pk (by kernel_rfl) pn))))))))) ?_
              rintro v4_27 H4_27 ⟨b4_27, rfl, hN4_27⟩
              have gb4_27 := hX.fresh hN4_27
              have nm0_0_4_27 := m0_0.apart hN4_27
              have nmr_4_27 := mr.apart hN4_27
              have nm1_2_4_27 := m1_2.apart hN4_27
              have nm2_1_4_27 := m2_1.apart hN4_27
              have m0_0 := m0_0.ext hN4_27.ext
              have mr := mr.ext hN4_27.ext
              have m1_2 := m1_2.ext hN4_27.ext
              have m2_1 := m2_1.ext hN4_27.ext
              have hX := hX.trans hN4_27.ext
              have m4_27 := hN4_27.blk
              refine ⟨(okc (lv_load rfl rfl (ld_blk m2_1 rfl)) (okc (lv_load rfl rfl (ld_blk m2_1 rfl)) (okc (lv_load rfl rfl (ld_blk m2_1 rfl)) (okc (lv_load rfl rfl (ld_blk m2_1 rfl)) (okc (lv_load rfl rfl (ld_blk m2_1 rfl)) (okc (lv_load rfl rfl (ld_blk m2_1 rfl)) (okc (lv_load rfl rfl (ld_blk m2_1 rfl)) (okc (lv_load rfl rfl (ld_blk m2_1 rfl)) (okc (lv_load rfl rfl (ld_blk m2_1 rfl)) okn))))))))), ?_⟩
              refine xp_heavy (i := 9) (by kernel_rfl) ?_
              refine xph_val rfl rfl rfl rfl (hv_call (g := 47) rfl rfl (c47 mr m1_2 nmr_1_2.symm) rfl) (pk (by kernel_rfl) (pk (by kernel_rfl) (pk (by kernel_rfl) (pk (by kernel_rfl) (pk (by kernel_rfl) (pk (by kernel_rfl) (pk (by kernel_rfl) (pk (by kernel_rfl) (pd (by kernel_rfl) pn))))))))) ?_
              rintro v4_9 H4_9 ⟨n4_9, l4_9, bad4_9, hw4_9, hn4_9, rfl, hU4_9⟩
              have m0_0 := m0_0.off hU4_9.but (nm0_0_mr)
              have m1_2 := m1_2.off hU4_9.but (nmr_1_2.symm)
              have m2_1 := m2_1.off hU4_9.but (nmr_2_1.symm)
              have m4_27 := m4_27.off hU4_9.but (nmr_4_27.symm)
              have hX := hX.upd hU4_9.but grd
              have mr := hU4_9.blk
              refine ⟨(okc (lv_load rfl rfl (ld_blk m2_1 rfl)) (okc (lv_load rfl rfl (ld_blk m2_1 rfl)) (okc (lv_load rfl rfl (ld_blk m2_1 rfl)) (okc (lv_load rfl rfl (ld_blk m2_1 rfl)) (okc (lv_load rfl rfl (ld_blk m2_1 rfl)) (okc (lv_load rfl rfl (ld_blk m2_1 rfl)) (okc (lv_load rfl rfl (ld_blk m2_1 rfl)) (okc (lv_load rfl rfl (ld_blk m2_1 rfl)) okn)))))))), ?_⟩
              refine xp_heavy (i := 11) (by kernel_rfl) ?_
              refine xph_val rfl rfl rfl rfl (hv_call (g := 47) rfl rfl (c47 mr m1_2 nmr_1_2.symm) rfl) (pk (by kernel_rfl) (pk (by kernel_rfl) (pk (by kernel_rfl) (pk (by kernel_rfl) (pk (by kernel_rfl) (pk (by kernel_rfl) (pk (by kernel_rfl) (pd (by kernel_rfl) pn)))))))) ?_
              rintro v4_11 H4_11 ⟨n4_11, l4_11, bad4_11, hw4_11, hn4_11, rfl, hU4_11⟩
              have m0_0 := m0_0.off hU4_11.but (nm0_0_mr)
              have m1_2 := m1_2.off hU4_11.but (nmr_1_2.symm)
              have m2_1 := m2_1.off hU4_11.but (nmr_2_1.symm)
              have m4_27 := m4_27.off hU4_11.but (nmr_4_27.symm)
              have hX := hX.upd hU4_11.but grd
              have mr := hU4_11.blk
              refine ⟨(okc (lv_load rfl rfl (ld_blk m2_1 rfl)) (okc (lv_load rfl rfl (ld_blk m2_1 rfl)) (okc (lv_load rfl rfl (ld_blk m2_1 rfl)) (okc (lv_load rfl rfl (ld_blk m2_1 rfl)) (okc (lv_load rfl rfl (ld_blk m2_1 rfl)) (okc (lv_load rfl rfl (ld_blk m2_1 rfl)) (okc (lv_load rfl rfl (ld_blk m2_1 rfl)) okn))))))), ?_⟩
              refine xp_heavy (i := 13) (by kernel_rfl) ?_
              refine xph_val rfl rfl rfl rfl (hv_call (g := 47) rfl rfl (c47 mr m1_2 nmr_1_2.symm) rfl) (pk (by kernel_rfl) (pk (by kernel_rfl) (pk (by kernel_rfl) (pk (by kernel_rfl) (pk (by kernel_rfl) (pk (by kernel_rfl) (pd (by kernel_rfl) pn))))))) ?_
              rintro v4_13 H4_13 ⟨n4_13, l4_13, bad4_13, hw4_13, hn4_13, rfl, hU4_13⟩
              have m0_0 := m0_0.off hU4_13.but (nm0_0_mr)
              have m1_2 := m1_2.off hU4_13.but (nmr_1_2.symm)
              have m2_1 := m2_1.off hU4_13.but (nmr_2_1.symm)
              have m4_27 := m4_27.off hU4_13.but (nmr_4_27.symm)
              have hX := hX.upd hU4_13.but grd
              have mr := hU4_13.blk
              refine ⟨(okc (lv_load rfl rfl (ld_blk m2_1 rfl)) (okc (lv_load rfl rfl (ld_blk m2_1 rfl)) (okc (lv_load rfl rfl (ld_blk m2_1 rfl)) (okc (lv_load rfl rfl (ld_blk m2_1 rfl)) (okc (lv_load rfl rfl (ld_blk m2_1 rfl)) (okc (lv_load rfl rfl (ld_blk m2_1 rfl)) okn)))))), ?_⟩
              refine xp_heavy (i := 15) (by kernel_rfl) ?_
              refine xph_val rfl rfl rfl rfl (hv_call (g := 47) rfl rfl (c47 mr m1_2 nmr_1_2.symm) rfl) (pk (by kernel_rfl) (pk (by kernel_rfl) (pk (by kernel_rfl) (pk (by kernel_rfl) (pk (by kernel_rfl) (pd (by kernel_rfl) pn)))))) ?_
              rintro v4_15 H4_15 ⟨n4_15, l4_15, bad4_15, hw4_15, hn4_15, rfl, hU4_15⟩
              have m0_0 := m0_0.off hU4_15.but (nm0_0_mr)
              have m1_2 := m1_2.off hU4_15.but (nmr_1_2.symm)
              have m2_1 := m2_1.off hU4_15.but (nmr_2_1.symm)
              have m4_27 := m4_27.off hU4_15.but (nmr_4_27.symm)
              have hX := hX.upd hU4_15.but grd
              have mr := hU4_15.blk
              refine ⟨(okc (lv_load rfl rfl (ld_blk m2_1 rfl)) (okc (lv_load rfl rfl (ld_blk m2_1 rfl)) (okc (lv_load rfl rfl (ld_blk m2_1 rfl)) (okc (lv_load rfl rfl (ld_blk m2_1 rfl)) (okc (lv_load rfl rfl (ld_blk m2_1 rfl)) okn))))), ?_⟩
              refine xp_heavy (i := 17) (by kernel_rfl) ?_
              refine xph_val rfl rfl rfl rfl (hv_call (g := 47) rfl rfl (c47 mr m1_2 nmr_1_2.symm) rfl) (pk (by kernel_rfl) (pk (by kernel_rfl) (pk (by kernel_rfl) (pk (by kernel_rfl) (pd (by kernel_rfl) pn))))) ?_
              rintro v4_17 H4_17 ⟨n4_17, l4_17, bad4_17, hw4_17, hn4_17, rfl, hU4_17⟩
              have m0_0 := m0_0.off hU4_17.but (nm0_0_mr)
              have m1_2 := m1_2.off hU4_17.but (nmr_1_2.symm)
              have m2_1 := m2_1.off hU4_17.but (nmr_2_1.symm)
              have m4_27 := m4_27.off hU4_17.but (nmr_4_27.symm)
              have hX := hX.upd hU4_17.but grd
              have mr := hU4_17.blk
              refine ⟨(okc (lv_load rfl rfl (ld_blk m2_1 rfl)) (okc (lv_load rfl rfl (ld_blk m2_1 rfl)) (okc (lv_load rfl rfl (ld_blk m2_1 rfl)) (okc (lv_load rfl rfl (ld_blk m2_1 rfl)) okn)))), ?_⟩
              refine xp_heavy (i := 19) (by kernel_rfl) ?_
              refine xph_val rfl rfl rfl rfl (hv_call (g := 47) rfl rfl (c47 mr m1_2 nmr_1_2.symm) rfl) (pk (by kernel_rfl) (pk (by kernel_rfl) (pk (by kernel_rfl) (pd (by kernel_rfl) pn)))) ?_
              rintro v4_19 H4_19 ⟨n4_19, l4_19, bad4_19, hw4_19, hn4_19, rfl, hU4_19⟩
              have m0_0 := m0_0.off hU4_19.but (nm0_0_mr)
              have m1_2 := m1_2.off hU4_19.but (nmr_1_2.symm)
              have m2_1 := m2_1.off hU4_19.but (nmr_2_1.symm)
              have m4_27 := m4_27.off hU4_19.but (nmr_4_27.symm)
              have hX := hX.upd hU4_19.but grd
              have mr := hU4_19.blk
              refine ⟨(okc (lv_load rfl rfl (ld_blk m2_1 rfl)) (okc (lv_load rfl rfl (ld_blk m2_1 rfl)) (okc (lv_load rfl rfl (ld_blk m2_1 rfl)) okn))), ?_⟩
              refine xp_heavy (i := 21) (by kernel_rfl) ?_
              refine xph_val rfl rfl rfl rfl (hv_call (g := 47) rfl rfl (c47 mr m1_2 nmr_1_2.symm) rfl) (pk (by kernel_rfl) (pk (by kernel_rfl) (pd (by kernel_rfl) pn))) ?_
              rintro v4_21 H4_21 ⟨n4_21, l4_21, bad4_21, hw4_21, hn4_21, rfl, hU4_21⟩
              have m0_0 := m0_0.off hU4_21.but (nm0_0_mr)
              have m1_2 := m1_2.off hU4_21.but (nmr_1_2.symm)
              have m2_1 := m2_1.off hU4_21.but (nmr_2_1.symm)
              have m4_27 := m4_27.off hU4_21.but (nmr_4_27.symm)
              have hX := hX.upd hU4_21.but grd
              have mr := hU4_21.blk
              refine ⟨(okc (lv_load rfl rfl (ld_blk m2_1 rfl)) (okc (lv_load rfl rfl (ld_blk m2_1 rfl)) okn)), ?_⟩
              refine xp_heavy (i := 23) (by kernel_rfl) ?_
              refine xph_val rfl rfl rfl rfl (hv_call (g := 47) rfl rfl (c47 mr m1_2 nmr_1_2.symm) rfl) (pk (by kernel_rfl) (pd (by kernel_rfl) pn)) ?_
              rintro v4_23 H4_23 ⟨n4_23, l4_23, bad4_23, hw4_23, hn4_23, rfl, hU4_23⟩
              have m0_0 := m0_0.off hU4_23.but (nm0_0_mr)
              have m1_2 := m1_2.off hU4_23.but (nmr_1_2.symm)
              have m2_1 := m2_1.off hU4_23.but (nmr_2_1.symm)
              have m4_27 := m4_27.off hU4_23.but (nmr_4_27.symm)
              have hX := hX.upd hU4_23.but grd
              have mr := hU4_23.blk
              refine ⟨(okc (lv_load rfl rfl (ld_blk m2_1 rfl)) okn), ?_⟩
              refine xp_heavy (i := 25) (by kernel_rfl) ?_
              refine xph_val rfl rfl rfl rfl (hv_call (g := 47) rfl rfl (c47 mr m1_2 nmr_1_2.symm) rfl) (pd (by kernel_rfl) pn) ?_
              rintro v4_25 H4_25 ⟨n4_25, l4_25, bad4_25, hw4_25, hn4_25, rfl, hU4_25⟩
              have m0_0 := m0_0.off hU4_25.but (nm0_0_mr)
              have m1_2 := m1_2.off hU4_25.but (nmr_1_2.symm)
              have m2_1 := m2_1.off hU4_25.but (nmr_2_1.symm)
              have m4_27 := m4_27.off hU4_25.but (nmr_4_27.symm)
              have hX := hX.upd hU4_25.but grd
              have mr := hU4_25.blk
              refine ⟨okn, ?_⟩
              refine xp_pure (i := 26) rfl (by kernel_rfl) (by kernel_rfl) rfl rfl rfl (pv_build_s (cs := dcs (mkD [(n4_1 : Int), (n4_3 : Int), (n4_5 : Int), (n4_7 : Int), (n4_9 : Int), (n4_11 : Int), (n4_13 : Int), (n4_15 : Int), (n4_17 : Int), (n4_19 : Int), (n4_21 : Int), (n4_23 : Int), (n4_25 : Int)] [] [] []) none none 0 0) rfl rfl (by kernel_rfl)) ?_
              refine xp_heavy (i := 28) (by kernel_rfl) ?_
              refine xph_store rfl rfl rfl (hv_storeA (vs := dcs (mkD [(n4_1 : Int), (n4_3 : Int), (n4_5 : Int), (n4_7 : Int), (n4_9 : Int), (n4_11 : Int), (n4_13 : Int), (n4_15 : Int), (n4_17 : Int), (n4_19 : Int), (n4_21 : Int), (n4_23 : Int), (n4_25 : Int)] [] [] []) none none 0 0) rfl rfl rfl (m4_27) rfl (by rfl) rfl) pn ?_
              rintro v4_28 H4_28 ⟨hU4_28, hZ4_28⟩
              have m0_0 := m0_0.off hU4_28.but (nm0_0_4_27)
              have mr := mr.off hU4_28.but (nmr_4_27)
              have m1_2 := m1_2.off hU4_28.but (nm1_2_4_27)
              have m2_1 := m2_1.off hU4_28.but (nm2_1_4_27)
              have hX := hX.upd hU4_28.but gb4_27
              have m4_27 := hU4_28.blk
              refine ⟨okn, ?_⟩
              refine xp_done (by kernel_rfl) ?_
              refine xthen_normal ?_
              exact ⟨([(n4_1 : Int), (n4_3 : Int), (n4_5 : Int), (n4_7 : Int), (n4_9 : Int), (n4_11 : Int), (n4_13 : Int), (n4_15 : Int), (n4_17 : Int), (n4_19 : Int), (n4_21 : Int), (n4_23 : Int), (n4_25 : Int)], _, _, _), ⟨rfl, rfl, rfl, rfl, rfl, trivial⟩, ⟨rdU_13 hw4_1 hw4_3 hw4_5 hw4_7 hw4_9 hw4_11 hw4_13 hw4_15 hw4_17 hw4_19 hw4_21 hw4_23 hw4_25, m0_0, mr, m1_2, m2_1, m4_27, gb4_27, nm0_0_4_27, nmr_4_27, nm1_2_4_27, nm2_1_4_27, hX⟩⟩
          · skip
            refine xph_val rfl rfl rfl rfl (hv_alloc rfl rfl) (pk (by kernel_rfl) (pk (by kernel_rfl) (pk (by kernel_rfl) (pk (by kernel_rfl) (pk (by kernel_rfl) (pk (by kernel_rfl) (pk (by kernel_rfl) (pk (by kernel_rfl) (pk (by kernel_rfl) (pk (by kernel_rfl) pn)))))))))) ?_
            rintro v4_27 H4_27 ⟨b4_27, rfl, hN4_27⟩
            have gb4_27 := hX.fresh hN4_27
            have nm0_0_4_27 := m0_0.apart hN4_27
            have nmr_4_27 := mr.apart hN4_27
            have nm1_2_4_27 := m1_2.apart hN4_27
            have nm2_1_4_27 := m2_1.apart hN4_27
            have m0_0 := m0_0.ext hN4_27.ext
            have mr := mr.ext hN4_27.ext
            have m1_2 := m1_2.ext hN4_27.ext
            have m2_1 := m2_1.ext hN4_27.ext
            have hX := hX.trans hN4_27.ext
            have m4_27 := hN4_27.blk
            refine ⟨(okc (lv_load rfl rfl (ld_blk m2_1 rfl)) (okc (lv_load rfl rfl (ld_blk m2_1 rfl)) (okc (lv_load rfl rfl (ld_blk m2_1 rfl)) (okc (lv_load rfl rfl (ld_blk m2_1 rfl)) (okc (lv_load rfl rfl (ld_blk m2_1 rfl)) (okc (lv_load rfl rfl (ld_blk m2_1 rfl)) (okc (lv_load rfl rfl (ld_blk m2_1 rfl)) (okc (lv_load rfl rfl (ld_blk m2_1 rfl)) (okc (lv_load rfl rfl (ld_blk m2_1 rfl)) (okc (lv_load rfl rfl (ld_blk m2_1 rfl)) okn)))))))))), ?_⟩
            refine xp_heavy (i := 7) (by kernel_rfl) ?_
            refine xph_val rfl rfl rfl rfl (hv_call (g := 47) rfl rfl (c47 mr m1_2 nmr_1_2.symm) rfl) (pk (by kernel_rfl) (pk (by kernel_rfl) (pk (by kernel_rfl) (pk (by kernel_rfl) (pk (by kernel_rfl) (pk (by kernel_rfl) (pk (by kernel_rfl) (pk (by kernel_rfl) (pk (by kernel_rfl) (pd (by kernel_rfl) pn)))))))))) ?_
            rintro v4_7 H4_7 ⟨n4_7, l4_7, bad4_7, hw4_7, hn4_7, rfl, hU4_7⟩
            have m0_0 := m0_0.off hU4_7.but (nm0_0_mr)
            have m1_2 := m1_2.off hU4_7.but (nmr_1_2.symm)
            have m2_1 := m2_1.off hU4_7.but (nmr_2_1.symm)
            have m4_27 := m4_27.off hU4_7.but (nmr_4_27.symm)
            have hX := hX.upd hU4_7.but grd
            have mr := hU4_7.blk
            refine ⟨(okc (lv_load rfl rfl (ld_blk m2_1 rfl)) (okc (lv_load rfl rfl (ld_blk m2_1 rfl)) (okc (lv_load rfl rfl (ld_blk m2_1 rfl)) (okc (lv_load rfl rfl (ld_blk m2_1 rfl)) (okc (lv_load rfl rfl (ld_blk m2_1 rfl)) (okc (lv_load rfl rfl (ld_blk m2_1 rfl)) (okc (lv_load rfl rfl (ld_blk m2_1 rfl)) (okc (lv_load rfl rfl (ld_blk m2_1 rfl)) (okc (lv_load rfl rfl (ld_blk m2_1 rfl)) okn))))))))), ?_⟩
            refine xp_heavy (i := 9) (by kernel_rfl) ?_
            refine xph_val rfl rfl rfl rfl (hv_call (g := 47) rfl rfl (c47 mr m1_2 nmr_1_2.symm) rfl) (pk (by kernel_rfl) (pk (by kernel_rfl) (pk (by kernel_rfl) (pk (by kernel_rfl) (pk (by kernel_rfl) (pk (by kernel_rfl) (pk (by kernel_rfl) (pk (by kernel_rfl) (pd (by kernel_rfl) pn))))))))) ?_
            rintro v4_9 H4_9 ⟨n4_9, l4_9, bad4_9, hw4_9, hn4_9, rfl, hU4_9⟩
            have m0_0 := m0_0.off hU4_9.but (nm0_0_mr)
            have m1_2 := m1_2.off hU4_9.but (nmr_1_2.symm)
            have m2_1 := m2_1.off hU4_9.but (nmr_2_1.symm)
            have m4_27 := m4_27.off hU4_9.but (nmr_4_27.symm)
            have hX := hX.upd hU4_9.but grd
            have mr := hU4_9.blk
            refine ⟨(okc (lv_load rfl rfl (ld_blk m2_1 rfl)) (okc (lv_load rfl rfl (ld_blk m2_1 rfl)) (okc (lv_load rfl rfl (ld_blk m2_1 rfl)) (okc (lv_load rfl rfl (ld_blk m2_1 rfl)) (okc (lv_load rfl rfl (ld_blk m2_1 rfl)) (okc (lv_load rfl rfl (ld_blk m2_1 rfl)) (okc (lv_load rfl rfl (ld_blk m2_1 rfl)) (okc (lv_load rfl rfl (ld_blk m2_1 rfl)) okn)))))))), ?_⟩
            refine xp_heavy (i := 11) (by kernel_rfl) ?_
            refine xph_val rfl rfl rfl rfl (hv_call (g := 47) rfl rfl (c47 mr m1_2 nmr_1_2.symm) rfl) (pk (by kernel_rfl) (pk (by kernel_rfl) (pk (by kernel_rfl) (pk (by kernel_rfl) (pk (by kernel_rfl) (pk (by kernel_rfl) (pk (by kernel_rfl) (pd (by kernel_rfl) pn)))))))) ?_
            rintro v4_11 H4_11 ⟨n4_11, l4_11, bad4_11, hw4_11, hn4_11, rfl, hU4_11⟩
            have m0_0 := m0_0.off hU4_11.but (nm0_0_mr)
            have m1_2 := m1_2.off hU4_11.but (nmr_1_2.symm)
            have m2_1 := m2_1.off hU4_11.but (nmr_2_1.symm)
            have m4_27 := m4_27.off hU4_11.but (nmr_4_27.symm)
            have hX := hX.upd hU4_11.but grd
            have mr := hU4_11.blk
            refine ⟨(okc (lv_load rfl rfl (ld_blk m2_1 rfl)) (okc (lv_load rfl rfl (ld_blk m2_1 rfl)) (okc (lv_load rfl rfl (ld_blk m2_1 rfl)) (okc (lv_load rfl rfl (ld_blk m2_1 rfl)) (okc (lv_load rfl rfl (ld_blk m2_1 rfl)) (okc (lv_load rfl rfl (ld_blk m2_1 rfl)) (okc (lv_load rfl rfl (ld_blk m2_1 rfl)) okn))))))), ?_⟩
            refine xp_heavy (i := 13) (by kernel_rfl) ?_
            refine xph_val rfl rfl rfl rfl (hv_call (g := 47) rfl rfl (c47 mr m1_2 nmr_1_2.symm) rfl) (pk (by kernel_rfl) (pk (by kernel_rfl) (pk (by kernel_rfl) (pk (by kernel_rfl) (pk (by kernel_rfl) (pk (by kernel_rfl) (pd (by kernel_rfl) pn))))))) ?_
            rintro v4_13 H4_13 ⟨n4_13, l4_13, bad4_13, hw4_13, hn4_13, rfl, hU4_13⟩
            have m0_0 := m0_0.off hU4_13.but (nm0_0_mr)
            have m1_2 := m1_2.off hU4_13.but (nmr_1_2.symm)
            have m2_1 := m2_1.off hU4_13.but (nmr_2_1.symm)
            have m4_27 := m4_27.off hU4_13.but (nmr_4_27.symm)
            have hX := hX.upd hU4_13.but grd
            have mr := hU4_13.blk
            refine ⟨(okc (lv_load rfl rfl (ld_blk m2_1 rfl)) (okc (lv_load rfl rfl (ld_blk m2_1 rfl)) (okc (lv_load rfl rfl (ld_blk m2_1 rfl)) (okc (lv_load rfl rfl (ld_blk m2_1 rfl)) (okc (lv_load rfl rfl (ld_blk m2_1 rfl)) (okc (lv_load rfl rfl (ld_blk m2_1 rfl)) okn)))))), ?_⟩
            refine xp_heavy (i := 15) (by kernel_rfl) ?_
            refine xph_val rfl rfl rfl rfl (hv_call (g := 47) rfl rfl (c47 mr m1_2 nmr_1_2.symm) rfl) (pk (by kernel_rfl) (pk (by kernel_rfl) (pk (by kernel_rfl) (pk (by kernel_rfl) (pk (by kernel_rfl) (pd (by kernel_rfl) pn)))))) ?_
            rintro v4_15 H4_15 ⟨n4_15, l4_15, bad4_15, hw4_15, hn4_15, rfl, hU4_15⟩
            have m0_0 := m0_0.off hU4_15.but (nm0_0_mr)
            have m1_2 := m1_2.off hU4_15.but (nmr_1_2.symm)
            have m2_1 := m2_1.off hU4_15.but (nmr_2_1.symm)
            have m4_27 := m4_27.off hU4_15.but (nmr_4_27.symm)
            have hX := hX.upd hU4_15.but grd
            have mr := hU4_15.blk
            refine ⟨(okc (lv_load rfl rfl (ld_blk m2_1 rfl)) (okc (lv_load rfl rfl (ld_blk m2_1 rfl)) (okc (lv_load rfl rfl (ld_blk m2_1 rfl)) (okc (lv_load rfl rfl (ld_blk m2_1 rfl)) (okc (lv_load rfl rfl (ld_blk m2_1 rfl)) okn))))), ?_⟩
            refine xp_heavy (i := 17) (by kernel_rfl) ?_
            refine xph_val rfl rfl rfl rfl (hv_call (g := 47) rfl rfl (c47 mr m1_2 nmr_1_2.symm) rfl) (pk (by kernel_rfl) (pk (by kernel_rfl) (pk (by kernel_rfl) (pk (by kernel_rfl) (pd (by kernel_rfl) pn))))) ?_
            rintro v4_17 H4_17 ⟨n4_17, l4_17, bad4_17, hw4_17, hn4_17, rfl, hU4_17⟩
            have m0_0 := m0_0.off hU4_17.but (nm0_0_mr)
            have m1_2 := m1_2.off hU4_17.but (nmr_1_2.symm)
            have m2_1 := m2_1.off hU4_17.but (nmr_2_1.symm)
            have m4_27 := m4_27.off hU4_17.but (nmr_4_27.symm)
            have hX := hX.upd hU4_17.but grd
            have mr := hU4_17.blk
            refine ⟨(okc (lv_load rfl rfl (ld_blk m2_1 rfl)) (okc (lv_load rfl rfl (ld_blk m2_1 rfl)) (okc (lv_load rfl rfl (ld_blk m2_1 rfl)) (okc (lv_load rfl rfl (ld_blk m2_1 rfl)) okn)))), ?_⟩
            refine xp_heavy (i := 19) (by kernel_rfl) ?_
            refine xph_val rfl rfl rfl rfl (hv_call (g := 47) rfl rfl (c47 mr m1_2 nmr_1_2.symm) rfl) (pk (by kernel_rfl) (pk (by kernel_rfl) (pk (by kernel_rfl) (pd (by kernel_rfl) pn)))) ?_
            rintro v4_19 H4_19 ⟨n4_19, l4_19, bad4_19, hw4_19, hn4_19, rfl, hU4_19⟩
            have m0_0 := m0_0.off hU4_19.but (nm0_0_mr)
            have m1_2 := m1_2.off hU4_19.but (nmr_1_2.symm)
            have m2_1 := m2_1.off hU4_19.but (nmr_2_1.symm)
            have m4_27 := m4_27.off hU4_19.but (nmr_4_27.symm)
            have hX := hX.upd hU4_19.but grd
            have mr := hU4_19.blk
            refine ⟨(okc (lv_load rfl rfl (ld_blk m2_1 rfl)) (okc (lv_load rfl rfl (ld_blk m2_1 rfl)) (okc (lv_load rfl rfl (ld_blk m2_1 rfl)) okn))), ?_⟩
            refine xp_heavy (i := 21) (by kernel_rfl) ?_
            refine xph_val rfl rfl rfl rfl (hv_call (g := 47) rfl rfl (c47 mr m1_2 nmr_1_2.symm) rfl) (pk (by kernel_rfl) (pk (by kernel_rfl) (pd (by kernel_rfl) pn))) ?_
            rintro v4_21 H4_21 ⟨n4_21, l4_21, bad4_21, hw4_21, hn4_21, rfl, hU4_21⟩
            have m0_0 := m0_0.off hU4_21.but (nm0_0_mr)
            have m1_2 := m1_2.off hU4_21.but (nmr_1_2.symm)
            have m2_1 := m2_1.off hU4_21.but (nmr_2_1.symm)
            have m4_27 := m4_27.off hU4_21.but (nmr_4_27.symm)
            have hX := hX.upd hU4_21.but grd
            have mr := hU4_21.blk
            refine ⟨(okc (lv_load rfl rfl (ld_blk m2_1 rfl)) (okc (lv_load rfl rfl (ld_blk m2_1 rfl)) okn)), ?_⟩
            refine xp_heavy (i := 23) (by kernel_rfl) ?_
            refine xph_val rfl rfl rfl rfl (hv_call (g := 47) rfl rfl (c47 mr m1_2 nmr_1_2.symm) rfl) (pk (by kernel_rfl) (pd (by kernel_rfl) pn)) ?_
            rintro v4_23 H4_23 ⟨n4_23, l4_23, bad4_23, hw4_23, hn4_23, rfl, hU4_23⟩
            have m0_0 := m0_0.off hU4_23.but (nm0_0_mr)
            have m1_2 := m1_2.off hU4_23.but (nmr_1_2.symm)
            have m2_1 := m2_1.off hU4_23.but (nmr_2_1.symm)
            have m4_27 := m4_27.off hU4_23.but (nmr_4_27.symm)
            have hX := hX.upd hU4_23.but grd
            have mr := hU4_23.blk
            refine ⟨(okc (lv_load rfl rfl (ld_blk m2_1 rfl)) okn), ?_⟩
            refine xp_heavy (i := 25) (by kernel_rfl) ?_
            refine xph_val rfl rfl rfl rfl (hv_call (g := 47) rfl rfl (c47 mr m1_2 nmr_1_2.symm) rfl) (pd (by kernel_rfl) pn) ?_
            rintro v4_25 H4_25 ⟨n4_25, l4_25, bad4_25, hw4_25, hn4_25, rfl, hU4_25⟩
            have m0_0 := m0_0.off hU4_25.but (nm0_0_mr)
            have m1_2 := m1_2.off hU4_25.but (nmr_1_2.symm)
            have m2_1 := m2_1.off hU4_25.but (nmr_2_1.symm)
            have m4_27 := m4_27.off hU4_25.but (nmr_4_27.symm)
            have hX := hX.upd hU4_25.but grd
            have mr := hU4_25.blk
            refine ⟨okn, ?_⟩
            refine xp_pure (i := 26) rfl (by kernel_rfl) (by kernel_rfl) rfl rfl rfl (pv_build_s (cs := dcs (mkD [(n4_1 : Int), (n4_3 : Int), (n4_5 : Int), (n4_7 : Int), (n4_9 : Int), (n4_11 : Int), (n4_13 : Int), (n4_15 : Int), (n4_17 : Int), (n4_19 : Int), (n4_21 : Int), (n4_23 : Int), (n4_25 : Int)] [] [] []) none none 0 0) rfl rfl (by kernel_rfl)) ?_
            refine xp_heavy (i := 28) (by kernel_rfl) ?_
            refine xph_store rfl rfl rfl (hv_storeA (vs := dcs (mkD [(n4_1 : Int), (n4_3 : Int), (n4_5 : Int), (n4_7 : Int), (n4_9 : Int), (n4_11 : Int), (n4_13 : Int), (n4_15 : Int), (n4_17 : Int), (n4_19 : Int), (n4_21 : Int), (n4_23 : Int), (n4_25 : Int)] [] [] []) none none 0 0) rfl rfl rfl (m4_27) rfl (by rfl) rfl) pn ?_
            rintro v4_28 H4_28 ⟨hU4_28, hZ4_28⟩
            have m0_0 := m0_0.off hU4_28.but (nm0_0_4_27)
            have mr := mr.off hU4_28.but (nmr_4_27)
            have m1_2 := m1_2.off hU4_28.but (nm1_2_4_27)
            have m2_1 := m2_1.off hU4_28.but (nm2_1_4_27)
            have hX := hX.upd hU4_28.but gb4_27
            have m4_27 := hU4_28.blk
            refine ⟨okn, ?_⟩
            refine xp_done (by kernel_rfl) ?_
            refine xthen_normal ?_
            exact ⟨([(n4_1 : Int), (n4_3 : Int), (n4_5 : Int), (n4_7 : Int), (n4_9 : Int), (n4_11 : Int), (n4_13 : Int), (n4_15 : Int), (n4_17 : Int), (n4_19 : Int), (n4_21 : Int), (n4_23 : Int), (n4_25 : Int)], _, _, _), ⟨rfl, rfl, rfl, rfl, rfl, trivial⟩, ⟨rdU_13 hw4_1 hw4_3 hw4_5 hw4_7 hw4_9 hw4_11 hw4_13 hw4_15 hw4_17 hw4_19 hw4_21 hw4_23 hw4_25, m0_0, mr, m1_2, m2_1, m4_27, gb4_27, nm0_0_4_27, nmr_4_27, nm1_2_4_27, nm2_1_4_27, hX⟩⟩
        · skip
          refine xph_val rfl rfl rfl rfl (hv_alloc rfl rfl) (pk (by kernel_rfl) (pk (by kernel_rfl) (pk (by kernel_rfl) (pk (by kernel_rfl) (pk (by kernel_rfl) (pk (by kernel_rfl) (pk (by kernel_rfl) (pk (by kernel_rfl) (pk (by kernel_rfl) (pk (by kernel_rfl) (pk (by kernel_rfl) pn))))))))))) ?_
          rintro v4_27 H4_27 ⟨b4_27, rfl, hN4_27⟩
          have gb4_27 := hX.fresh hN4_27
          have nm0_0_4_27 := m0_0.apart hN4_27
          have nmr_4_27 := mr.apart hN4_27
          have nm1_2_4_27 := m1_2.apart hN4_27
          have nm2_1_4_27 := m2_1.apart hN4_27
          have m0_0 := m0_0.ext hN4_27.ext
          have mr := mr.ext hN4_27.ext
          have m1_2 := m1_2.ext hN4_27.ext
          have m2_1 := m2_1.ext hN4_27.ext
          have hX := hX.trans hN4_27.ext
          have m4_27 := hN4_27.blk
          refine ⟨(okc (lv_load rfl rfl (ld_blk m2_1 rfl)) (okc (lv_load rfl rfl (ld_blk m2_1 rfl)) (okc (lv_load rfl rfl (ld_blk m2_1 rfl)) (okc (lv_load rfl rfl (ld_blk m2_1 rfl)) (okc (lv_load rfl rfl (ld_blk m2_1 rfl)) (okc (lv_load rfl rfl (ld_blk m2_1 rfl)) (okc (lv_load rfl rfl (ld_blk m2_1 rfl)) (okc (lv_load rfl rfl (ld_blk m2_1 rfl)) (okc (lv_load rfl rfl (ld_blk m2_1 rfl)) (okc (lv_load rfl rfl (ld_blk m2_1 rfl)) (okc (lv_load rfl rfl (ld_blk m2_1 rfl)) okn))))))))))), ?_⟩
          refine xp_heavy (i := 5) (by kernel_rfl) ?_
          refine xph_val rfl rfl rfl rfl (hv_call (g := 47) rfl rfl (c47 mr m1_2 nmr_1_2.symm) rfl) (pk (by kernel_rfl) (pk (by kernel_rfl) (pk (by kernel_rfl) (pk (by kernel_rfl) (pk (by kernel_rfl) (pk (by kernel_rfl) (pk (by kernel_rfl) (pk (by kernel_rfl) (pk (by kernel_rfl) (pk (by kernel_rfl) (pd (by kernel_rfl) pn))))))))))) ?_
          rintro v4_5 H4_5 ⟨n4_5, l4_5, bad4_5, hw4_5, hn4_5, rfl, hU4_5⟩
          have m0_0 := m0_0.off hU4_5.but (nm0_0_mr)
          have m1_2 := m1_2.off hU4_5.but (nmr_1_2.symm)
          have m2_1 := m2_1.off hU4_5.but (nmr_2_1.symm)
          have m4_27 := m4_27.off hU4_5.but (nmr_4_27.symm)
          have hX := hX.upd hU4_5.but grd
          have mr := hU4_5.blk
          refine ⟨(okc (lv_load rfl rfl (ld_blk m2_1 rfl)) (okc (lv_load rfl rfl (ld_blk m2_1 rfl)) (okc (lv_load rfl rfl (ld_blk m2_1 rfl)) (okc (lv_load rfl rfl (ld_blk m2_1 rfl)) (okc (lv_load rfl rfl (ld_blk m2_1 rfl)) (okc (lv_load rfl rfl (ld_blk m2_1 rfl)) (okc (lv_load rfl rfl (ld_blk m2_1 rfl)) (okc (lv_load rfl rfl (ld_blk m2_1 rfl)) (okc (lv_load rfl rfl (ld_blk m2_1 rfl)) (okc (lv_load rfl rfl (ld_blk m2_1 rfl)) okn)))))))))), ?_⟩
          refine xp_heavy (i := 7) (by kernel_rfl) ?_
          refine xph_val rfl rfl rfl rfl (hv_call (g := 47) rfl rfl (c47 mr m1_2 nmr_1_2.symm) rfl) (pk (by kernel_rfl) (pk (by kernel_rfl) (pk (by kernel_rfl) (pk (by kernel_rfl) (pk (by kernel_rfl) (pk (by kernel_rfl) (pk (by kernel_rfl) (pk (by kernel_rfl) (pk (by kernel_rfl) (pd (by kernel_rfl) pn)))))))))) ?_
          rintro v4_7 H4_7 ⟨n4_7, l4_7, bad4_7, hw4_7, hn4_7, rfl, hU4_7⟩
          have m0_0 := m0_0.off hU4_7.but (nm0_0_mr)
          have m1_2 := m1_2.off hU4_7.but (nmr_1_2.symm)
          have m2_1 := m2_1.off hU4_7.but (nmr_2_1.symm)
          have m4_27 := m4_27.off hU4_7.but (nmr_4_27.symm)
          have hX := hX.upd hU4_7.but grd
          have mr := hU4_7.blk
          refine ⟨(okc (lv_load rfl rfl (ld_blk m2_1 rfl)) (okc (lv_load rfl rfl (ld_blk m2_1 rfl)) (okc (lv_load rfl rfl (ld_blk m2_1 rfl)) (okc (lv_load rfl rfl (ld_blk m2_1 rfl)) (okc (lv_load rfl rfl (ld_blk m2_1 rfl)) (okc (lv_load rfl rfl (ld_blk m2_1 rfl)) (okc (lv_load rfl rfl (ld_blk m2_1 rfl)) (okc (lv_load rfl rfl (ld_blk m2_1 rfl)) (okc (lv_load rfl rfl (ld_blk m2_1 rfl)) okn))))))))), ?_⟩
          refine xp_heavy (i := 9) (by kernel_rfl) ?_
          refine xph_val rfl rfl rfl rfl (hv_call (g := 47) rfl rfl (c47 mr m1_2 nmr_1_2.symm) rfl) (pk (by kernel_rfl) (pk (by kernel_rfl) (pk (by kernel_rfl) (pk (by kernel_rfl) (pk (by kernel_rfl) (pk (by kernel_rfl) (pk (by kernel_rfl) (pk (by kernel_rfl) (pd (by kernel_rfl) pn))))))))) ?_
          rintro v4_9 H4_9 ⟨n4_9, l4_9, bad4_9, hw4_9, hn4_9, rfl, hU4_9⟩
          have m0_0 := m0_0.off hU4_9.but (nm0_0_mr)
          have m1_2 := m1_2.off hU4_9.but (nmr_1_2.symm)
          have m2_1 := m2_1.off hU4_9.but (nmr_2_1.symm)
          have m4_27 := m4_27.off hU4_9.but (nmr_4_27.symm)
          have hX := hX.upd hU4_9.but grd
          have mr := hU4_9.blk
          refine ⟨(okc (lv_load rfl rfl (ld_blk m2_1 rfl)) (okc (lv_load rfl rfl (ld_blk m2_1 rfl)) (okc (lv_load rfl rfl (ld_blk m2_1 rfl)) (okc (lv_load rfl rfl (ld_blk m2_1 rfl)) (okc (lv_load rfl rfl (ld_blk m2_1 rfl)) (okc (lv_load rfl rfl (ld_blk m2_1 rfl)) (okc (lv_load rfl rfl (ld_blk m2_1 rfl)) (okc (lv_load rfl rfl (ld_blk m2_1 rfl)) okn)))))))), ?_⟩
          refine xp_heavy (i := 11) (by kernel_rfl) ?_
          refine xph_val rfl rfl rfl rfl (hv_call (g := 47) rfl rfl (c47 mr m1_2 nmr_1_2.symm) rfl) (pk (by kernel_rfl) (pk (by kernel_rfl) (pk (by kernel_rfl) (pk (by kernel_rfl) (pk (by kernel_rfl) (pk (by kernel_rfl) (pk (by kernel_rfl) (pd (by kernel_rfl) pn)))))))) ?_
          rintro v4_11 H4_11 ⟨n4_11, l4_11, bad4_11, hw4_11, hn4_11, rfl, hU4_11⟩
          have m0_0 := m0_0.off hU4_11.but (nm0_0_mr)
          have m1_2 := m1_2.off hU4_11.but (nmr_1_2.symm)
          have m2_1 := m2_1.off hU4_11.but (nmr_2_1.symm)
          have m4_27 := m4_27.off hU4_11.but (nmr_4_27.symm)
          have hX := hX.upd hU4_11.but grd
          have mr := hU4_11.blk
          refine ⟨(okc (lv_load rfl rfl (ld_blk m2_1 rfl)) (okc (lv_load rfl rfl (ld_blk m2_1 rfl)) (okc (lv_load rfl rfl (ld_blk m2_1 rfl)) (okc (lv_load rfl rfl (ld_blk m2_1 rfl)) (okc (lv_load rfl rfl (ld_blk m2_1 rfl)) (okc (lv_load rfl rfl (ld_blk m2_1 rfl)) (okc (lv_load rfl rfl (ld_blk m2_1 rfl)) okn))))))), ?_⟩
          refine xp_heavy (i := 13) (by kernel_rfl) ?_
          refine xph_val rfl rfl rfl rfl (hv_call (g := 47) rfl rfl (c47 mr m1_2 nmr_1_2.symm) rfl) (pk (by kernel_rfl) (pk (by kernel_rfl) (pk (by kernel_rfl) (pk (by kernel_rfl) (pk (by kernel_rfl) (pk (by kernel_rfl) (pd (by kernel_rfl) pn))))))) ?_
          rintro v4_13 H4_13 ⟨n4_13, l4_13, bad4_13, hw4_13, hn4_13, rfl, hU4_13⟩
          have m0_0 := m0_0.off hU4_13.but (nm0_0_mr)
          have m1_2 := m1_2.off hU4_13.but (nmr_1_2.symm)
          have m2_1 := m2_1.off hU4_13.but (nmr_2_1.symm)
          have m4_27 := m4_27.off hU4_13.but (nmr_4_27.symm)
          have hX := hX.upd hU4_13.but grd
          have mr := hU4_13.blk
          refine ⟨(okc (lv_load rfl rfl (ld_blk m2_1 rfl)) (okc (lv_load rfl rfl (ld_blk m2_1 rfl)) (okc (lv_load rfl rfl (ld_blk m2_1 rfl)) (okc (lv_load rfl rfl (ld_blk m2_1 rfl)) (okc (lv_load rfl rfl (ld_blk m2_1 rfl)) (okc (lv_load rfl rfl (ld_blk m2_1 rfl)) okn)))))), ?_⟩
          refine xp_heavy (i := 15) (by kernel_rfl) ?_
          refine xph_val rfl rfl rfl rfl (hv_call (g := 47) rfl rfl (c47 mr m1_2 nmr_1_2.symm) rfl) (pk (by kernel_rfl) (pk (by kernel_rfl) (pk (by kernel_rfl) (pk (by kernel_rfl) (pk (by kernel_rfl) (pd (by kernel_rfl) pn)))))) ?_
          rintro v4_15 H4_15 ⟨n4_15, l4_15, bad4_15, hw4_15, hn4_15, rfl, hU4_15⟩
          have m0_0 := m0_0.off hU4_15.but (nm0_0_mr)
          have m1_2 := m1_2.off hU4_15.but (nmr_1_2.symm)
          have m2_1 := m2_1.off hU4_15.but (nmr_2_1.symm)
          have m4_27 := m4_27.off hU4_15.but (nmr_4_27.symm)
          have hX := hX.upd hU4_15.but grd
          have mr := hU4_15.blk
          refine ⟨(okc (lv_load rfl rfl (ld_blk m2_1 rfl)) (okc (lv_load rfl rfl (ld_blk m2_1 rfl)) (okc (lv_load rfl rfl (ld_blk m2_1 rfl)) (okc (lv_load rfl rfl (ld_blk m2_1 rfl)) (okc (lv_load rfl rfl (ld_blk m2_1 rfl)) okn))))), ?_⟩
          refine xp_heavy (i := 17) (by kernel_rfl) ?_
          refine xph_val rfl rfl rfl rfl (hv_call (g := 47) rfl rfl (c47 mr m1_2 nmr_1_2.symm) rfl) (pk (by kernel_rfl) (pk (by kernel_rfl) (pk (by kernel_rfl) (pk (by kernel_rfl) (pd (by kernel_rfl) pn))))) ?_
          rintro v4_17 H4_17 ⟨n4_17, l4_17, bad4_17, hw4_17, hn4_17, rfl, hU4_17⟩
          have m0_0 := m0_0.off hU4_17.but (nm0_0_mr)
          have m1_2 := m1_2.off hU4_17.but (nmr_1_2.symm)
          have m2_1 := m2_1.off hU4_17.but (nmr_2_1.symm)
          have m4_27 := m4_27.off hU4_17.but (nmr_4_27.symm)
          have hX := hX.upd hU4_17.but grd
          have mr := hU4_17.blk
          refine ⟨(okc (lv_load rfl rfl (ld_blk m2_1 rfl)) (okc (lv_load rfl rfl (ld_blk m2_1 rfl)) (okc (lv_load rfl rfl (ld_blk m2_1 rfl)) (okc (lv_load rfl rfl (ld_blk m2_1 rfl)) okn)))), ?_⟩
          refine xp_heavy (i := 19) (by kernel_rfl) ?_
          refine xph_val rfl rfl rfl rfl (hv_call (g := 47) rfl rfl (c47 mr m1_2 nmr_1_2.symm) rfl) (pk (by kernel_rfl) (pk (by kernel_rfl) (pk (by kernel_rfl) (pd (by kernel_rfl) pn)))) ?_
          rintro v4_19 H4_19 ⟨n4_19, l4_19, bad4_19, hw4_19, hn4_19, rfl, hU4_19⟩
          have m0_0 := m0_0.off hU4_19.but (nm0_0_mr)
          have m1_2 := m1_2.off hU4_19.but (nmr_1_2.symm)
          have m2_1 := m2_1.off hU4_19.but (nmr_2_1.symm)
          have m4_27 := m4_27.off hU4_19.but (nmr_4_27.symm)
          have hX := hX.upd hU4_19.but grd
          have mr := hU4_19.blk
          refine ⟨(okc (lv_load rfl rfl (ld_blk m2_1 rfl)) (okc (lv_load rfl rfl (ld_blk m2_1 rfl)) (okc (lv_load rfl rfl (ld_blk m2_1 rfl)) okn))), ?_⟩
          refine xp_heavy (i := 21) (by kernel_rfl) ?_
          refine xph_val rfl rfl rfl rfl (hv_call (g := 47) rfl rfl (c47 mr m1_2 nmr_1_2.symm) rfl) (pk (by kernel_rfl) (pk (by kernel_rfl) (pd (by kernel_rfl) pn))) ?_
          rintro v4_21 H4_21 ⟨n4_21, l4_21, bad4_21, hw4_21, hn4_21, rfl, hU4_21⟩
          have m0_0 := m0_0.off hU4_21.but (nm0_0_mr)
          have m1_2 := m1_2.off hU4_21.but (nmr_1_2.symm)
          have m2_1 := m2_1.off hU4_21.but (nmr_2_1.symm)
          have m4_27 := m4_27.off hU4_21.but (nmr_4_27.symm)
          have hX := hX.upd hU4_21.but grd
          have mr := hU4_21.blk
          refine ⟨(okc (lv_load rfl rfl (ld_blk m2_1 rfl)) (okc (lv_load rfl rfl (ld_blk m2_1 rfl)) okn)), ?_⟩
          refine xp_heavy (i := 23) (by kernel_rfl) ?_
          refine xph_val rfl rfl rfl rfl (hv_call (g := 47) rfl rfl (c47 mr m1_2 nmr_1_2.symm) rfl) (pk (by kernel_rfl) (pd (by kernel_rfl) pn)) ?_
          rintro v4_23 H4_23 ⟨n4_23, l4_23, bad4_23, hw4_23, hn4_23, rfl, hU4_23⟩
          have m0_0 := m0_0.off hU4_23.but (nm0_0_mr)
          have m1_2 := m1_2.off hU4_23.but (nmr_1_2.symm)
          have m2_1 := m2_1.off hU4_23.but (nmr_2_1.symm)
          have m4_27 := m4_27.off hU4_23.but (nmr_4_27.symm)
          have hX := hX.upd hU4_23.but grd
          have mr := hU4_23.blk
          refine ⟨(okc (lv_load rfl rfl (ld_blk m2_1 rfl)) okn), ?_⟩
          refine xp_heavy (i := 25) (by kernel_rfl) ?_
          refine xph_val rfl rfl rfl rfl (hv_call (g := 47) rfl rfl (c47 mr m1_2 nmr_1_2.symm) rfl) (pd (by kernel_rfl) pn) ?_
          rintro v4_25 H4_25 ⟨n4_25, l4_25, bad4_25, hw4_25, hn4_25, rfl, hU4_25⟩
          have m0_0 := m0_0.off hU4_25.but (nm0_0_mr)
          have m1_2 := m1_2.off hU4_25.but (nmr_1_2.symm)
          have m2_1 := m2_1.off hU4_25.but (nmr_2_1.symm)
          have m4_27 := m4_27.off hU4_25.but (nmr_4_27.symm)
          have hX := hX.upd hU4_25.but grd
          have mr := hU4_25.blk
          refine ⟨okn, ?_⟩
          refine xp_pure (i := 26) rfl (by kernel_rfl) (by kernel_rfl) rfl rfl rfl (pv_build_s (cs := dcs (mkD [(n4_1 : Int), (n4_3 : Int), (n4_5 : Int), (n4_7 : Int), (n4_9 : Int), (n4_11 : Int), (n4_13 : Int), (n4_15 : Int), (n4_17 : Int), (n4_19 : Int), (n4_21 : Int), (n4_23 : Int), (n4_25 : Int)] [] [] []) none none 0 0) rfl rfl (by kernel_rfl)) ?_
          refine xp_heavy (i := 28) (by kernel_rfl) ?_
          refine xph_store rfl rfl rfl (hv_storeA (vs := dcs (mkD [(n4_1 : Int), (n4_3 : Int), (n4_5 : Int), (n4_7 : Int), (n4_9 : Int), (n4_11 : Int), (n4_13 : Int), (n4_15 : Int), (n4_17 : Int), (n4_19 : Int), (n4_21 : Int), (n4_23 : Int), (n4_25 : Int)] [] [] []) none none 0 0) rfl rfl rfl (m4_27) rfl (by rfl) rfl) pn ?_
          rintro v4_28 H4_28 ⟨hU4_28, hZ4_28⟩
          have m0_0 := m0_0.off hU4_28.but (nm0_0_4_27)
          have mr := mr.off hU4_28.but (nmr_4_27)
          have m1_2 := m1_2.off hU4_28.but (nm1_2_4_27)
          have m2_1 := m2_1.off hU4_28.but (nm2_1_4_27)
          have hX := hX.upd hU4_28.but gb4_27
          have m4_27 := hU4_28.blk
          refine ⟨okn, ?_⟩
          refine xp_done (by kernel_rfl) ?_
          refine xthen_normal ?_
          exact ⟨([(n4_1 : Int), (n4_3 : Int), (n4_5 : Int), (n4_7 : Int), (n4_9 : Int), (n4_11 : Int), (n4_13 : Int), (n4_15 : Int), (n4_17 : Int), (n4_19 : Int), (n4_21 : Int), (n4_23 : Int), (n4_25 : Int)], _, _, _), ⟨rfl, rfl, rfl, rfl, rfl, trivial⟩, ⟨rdU_13 hw4_1 hw4_3 hw4_5 hw4_7 hw4_9 hw4_11 hw4_13 hw4_15 hw4_17 hw4_19 hw4_21 hw4_23 hw4_25, m0_0, mr, m1_2, m2_1, m4_27, gb4_27, nm0_0_4_27, nmr_4_27, nm1_2_4_27, nm2_1_4_27, hX⟩⟩
      · skip
        refine xph_val rfl rfl rfl rfl (hv_alloc rfl rfl) (pk (by kernel_rfl) (pk (by kernel_rfl) (pk (by kernel_rfl) (pk (by kernel_rfl) (pk (by kernel_rfl) (pk (by kernel_rfl) (pk (by kernel_rfl) (pk (by kernel_rfl) (pk (by kernel_rfl) (pk (by kernel_rfl) (pk (by kernel_rfl) (pk (by kernel_rfl) pn)))))))))))) ?_
        rintro v4_27 H4_27 ⟨b4_27, rfl, hN4_27⟩
        have gb4_27 := hX.fresh hN4_27
        have nm0_0_4_27 := m0_0.apart hN4_27
        have nmr_4_27 := mr.apart hN4_27
        have nm1_2_4_27 := m1_2.apart hN4_27
        have nm2_1_4_27 := m2_1.apart hN4_27
        have m0_0 := m0_0.ext hN4_27.ext
        have mr := mr.ext hN4_27.ext
        have m1_2 := m1_2.ext hN4_27.ext
        have m2_1 := m2_1.ext hN4_27.ext
        have hX := hX.trans hN4_27.ext
        have m4_27 := hN4_27.blk
        refine ⟨(okc (lv_load rfl rfl (ld_blk m2_1 rfl)) (okc (lv_load rfl rfl (ld_blk m2_1 rfl)) (okc (lv_load rfl rfl (ld_blk m2_1 rfl)) (okc (lv_load rfl rfl (ld_blk m2_1 rfl)) (okc (lv_load rfl rfl (ld_blk m2_1 rfl)) (okc (lv_load rfl rfl (ld_blk m2_1 rfl)) (okc (lv_load rfl rfl (ld_blk m2_1 rfl)) (okc (lv_load rfl rfl (ld_blk m2_1 rfl)) (okc (lv_load rfl rfl (ld_blk m2_1 rfl)) (okc (lv_load rfl rfl (ld_blk m2_1 rfl)) (okc (lv_load rfl rfl (ld_blk m2_1 rfl)) (okc (lv_load rfl rfl (ld_blk m2_1 rfl)) okn)))))))))))), ?_⟩
        refine xp_heavy (i := 3) (by kernel_rfl) ?_
        refine xph_val rfl rfl rfl rfl (hv_call (g := 47) rfl rfl (c47 mr m1_2 nmr_1_2.symm) rfl) (pk (by kernel_rfl) (pk (by kernel_rfl) (pk (by kernel_rfl) (pk (by kernel_rfl) (pk (by kernel_rfl) (pk (by kernel_rfl) (pk (by kernel_rfl) (pk (by kernel_rfl) (pk (by kernel_rfl) (pk (by kernel_rfl) (pk (by kernel_rfl) (pd (by kernel_rfl) pn)))))))))))) ?_
        rintro v4_3 H4_3 ⟨n4_3, l4_3, bad4_3, hw4_3, hn4_3, rfl, hU4_3⟩
        have m0_0 := m0_0.off hU4_3.but (nm0_0_mr)
        have m1_2 := m1_2.off hU4_3.but (nmr_1_2.symm)
        have m2_1 := m2_1.off hU4_3.but (nmr_2_1.symm)
        have m4_27 := m4_27.off hU4_3.but (nmr_4_27.symm)
        have hX := hX.upd hU4_3.but grd
        have mr := hU4_3.blk
        refine ⟨(okc (lv_load rfl rfl (ld_blk m2_1 rfl)) (okc (lv_load rfl rfl (ld_blk m2_1 rfl)) (okc (lv_load rfl rfl (ld_blk m2_1 rfl)) (okc (lv_load rfl rfl (ld_blk m2_1 rfl)) (okc (lv_load rfl rfl (ld_blk m2_1 rfl)) (okc (lv_load rfl rfl (ld_blk m2_1 rfl)) (okc (lv_load rfl rfl (ld_blk m2_1 rfl)) (okc (lv_load rfl rfl (ld_blk m2_1 rfl)) (okc (lv_load rfl rfl (ld_blk m2_1 rfl)) (okc (lv_load rfl rfl (ld_blk m2_1 rfl)) (okc (lv_load rfl rfl (ld_blk m2_1 rfl)) okn))))))))))), ?_⟩
        refine xp_heavy (i := 5) (by kernel_rfl) ?_
        refine xph_val rfl rfl rfl rfl (hv_call (g := 47) rfl rfl (c47 mr m1_2 nmr_1_2.symm) rfl) (pk (by kernel_rfl) (pk (by kernel_rfl) (pk (by kernel_rfl) (pk (by kernel_rfl) (pk (by kernel_rfl) (pk (by kernel_rfl) (pk (by kernel_rfl) (pk (by kernel_rfl) (pk (by kernel_rfl) (pk (by kernel_rfl) (pd (by kernel_rfl) pn))))))))))) ?_
        rintro v4_5 H4_5 ⟨n4_5, l4_5, bad4_5, hw4_5, hn4_5, rfl, hU4_5⟩
        have m0_0 := m0_0.off hU4_5.but (nm0_0_mr)
        have m1_2 := m1_2.off hU4_5.but (nmr_1_2.symm)
        have m2_1 := m2_1.off hU4_5.but (nmr_2_1.symm)
        have m4_27 := m4_27.off hU4_5.but (nmr_4_27.symm)
        have hX := hX.upd hU4_5.but grd
        have mr := hU4_5.blk
        refine ⟨(okc (lv_load rfl rfl (ld_blk m2_1 rfl)) (okc (lv_load rfl rfl (ld_blk m2_1 rfl)) (okc (lv_load rfl rfl (ld_blk m2_1 rfl)) (okc (lv_load rfl rfl (ld_blk m2_1 rfl)) (okc (lv_load rfl rfl (ld_blk m2_1 rfl)) (okc (lv_load rfl rfl (ld_blk m2_1 rfl)) (okc (lv_load rfl rfl (ld_blk m2_1 rfl)) (okc (lv_load rfl rfl (ld_blk m2_1 rfl)) (okc (lv_load rfl rfl (ld_blk m2_1 rfl)) (okc (lv_load rfl rfl (ld_blk m2_1 rfl)) okn)))))))))), ?_⟩
        refine xp_heavy (i := 7) (by kernel_rfl) ?_
        refine xph_val rfl rfl rfl rfl (hv_call (g := 47) rfl rfl (c47 mr m1_2 nmr_1_2.symm) rfl) (pk (by kernel_rfl) (pk (by kernel_rfl) (pk (by kernel_rfl) (pk (by kernel_rfl) (pk (by kernel_rfl) (pk (by kernel_rfl) (pk (by kernel_rfl) (pk (by kernel_rfl) (pk (by kernel_rfl) (pd (by kernel_rfl) pn)))))))))) ?_
        rintro v4_7 H4_7 ⟨n4_7, l4_7, bad4_7, hw4_7, hn4_7, rfl, hU4_7⟩
        have m0_0 := m0_0.off hU4_7.but (nm0_0_mr)
        have m1_2 := m1_2.off hU4_7.but (nmr_1_2.symm)
        have m2_1 := m2_1.off hU4_7.but (nmr_2_1.symm)
        have m4_27 := m4_27.off hU4_7.but (nmr_4_27.symm)
        have hX := hX.upd hU4_7.but grd
        have mr := hU4_7.blk
        refine ⟨(okc (lv_load rfl rfl (ld_blk m2_1 rfl)) (okc (lv_load rfl rfl (ld_blk m2_1 rfl)) (okc (lv_load rfl rfl (ld_blk m2_1 rfl)) (okc (lv_load rfl rfl (ld_blk m2_1 rfl)) (okc (lv_load rfl rfl (ld_blk m2_1 rfl)) (okc (lv_load rfl rfl (ld_blk m2_1 rfl)) (okc (lv_load rfl rfl (ld_blk m2_1 rfl)) (okc (lv_load rfl rfl (ld_blk m2_1 rfl)) (okc (lv_load rfl rfl (ld_blk m2_1 rfl)) okn))))))))), ?_⟩
        refine xp_heavy (i := 9) (by kernel_rfl) ?_
        refine xph_val rfl rfl rfl rfl (hv_call (g := 47) rfl rfl (c47 mr m1_2 nmr_1_2.symm) rfl) (pk (by kernel_rfl) (pk (by kernel_rfl) (pk (by kernel_rfl) (pk (by kernel_rfl) (pk (by kernel_rfl) (pk (by kernel_rfl) (pk (by kernel_rfl) (pk (by kernel_rfl) (pd (by kernel_rfl) pn))))))))) ?_
        rintro v4_9 H4_9 ⟨n4_9, l4_9, bad4_9, hw4_9, hn4_9, rfl, hU4_9⟩
        have m0_0 := m0_0.off hU4_9.but (nm0_0_mr)
        have m1_2 := m1_2.off hU4_9.but (nmr_1_2.symm)
        have m2_1 := m2_1.off hU4_9.but (nmr_2_1.symm)
        have m4_27 := m4_27.off hU4_9.but (nmr_4_27.symm)
        have hX := hX.upd hU4_9.but grd
        have mr := hU4_9.blk
        refine ⟨(okc (lv_load rfl rfl (ld_blk m2_1 rfl)) (okc (lv_load rfl rfl (ld_blk m2_1 rfl)) (okc (lv_load rfl rfl (ld_blk m2_1 rfl)) (okc (lv_load rfl rfl (ld_blk m2_1 rfl)) (okc (lv_load rfl rfl (ld_blk m2_1 rfl)) (okc (lv_load rfl rfl (ld_blk m2_1 rfl)) (okc (lv_load rfl rfl (ld_blk m2_1 rfl)) (okc (lv_load rfl rfl (ld_blk m2_1 rfl)) okn)))))))), ?_⟩
        refine xp_heavy (i := 11) (by kernel_rfl) ?_
        refine xph_val rfl rfl rfl rfl (hv_call (g := 47) rfl rfl (c47 mr m1_2 nmr_1_2.symm) rfl) (pk (by kernel_rfl) (pk (by kernel_rfl) (pk (by kernel_rfl) (pk (by kernel_rfl) (pk (by kernel_rfl) (pk (by kernel_rfl) (pk (by kernel_rfl) (pd (by kernel_rfl) pn)))))))) ?_
        rintro v4_11 H4_11 ⟨n4_11, l4_11, bad4_11, hw4_11, hn4_11, rfl, hU4_11⟩
        have m0_0 := m0_0.off hU4_11.but (nm0_0_mr)
        have m1_2 := m1_2.off hU4_11.but (nmr_1_2.symm)
        have m2_1 := m2_1.off hU4_11.but (nmr_2_1.symm)
        have m4_27 := m4_27.off hU4_11.but (nmr_4_27.symm)
        have hX := hX.upd hU4_11.but grd
        have mr := hU4_11.blk
        refine ⟨(okc (lv_load rfl rfl (ld_blk m2_1 rfl)) (okc (lv_load rfl rfl (ld_blk m2_1 rfl)) (okc (lv_load rfl rfl (ld_blk m2_1 rfl)) (okc (lv_load rfl rfl (ld_blk m2_1 rfl)) (okc (lv_load rfl rfl (ld_blk m2_1 rfl)) (okc (lv_load rfl rfl (ld_blk m2_1 rfl)) (okc (lv_load rfl rfl (ld_blk m2_1 rfl)) okn))))))), ?_⟩
        refine xp_heavy (i := 13) (by kernel_rfl) ?_
        refine xph_val rfl rfl rfl rfl (hv_call (g := 47) rfl rfl (c47 mr m1_2 nmr_1_2.symm) rfl) (pk (by kernel_rfl) (pk (by kernel_rfl) (pk (by kernel_rfl) (pk (by kernel_rfl) (pk (by kernel_rfl) (pk (by kernel_rfl) (pd (by kernel_rfl) pn))))))) ?_
        rintro v4_13 H4_13 ⟨n4_13, l4_13, bad4_13, hw4_13, hn4_13, rfl, hU4_13⟩
        have m0_0 := m0_0.off hU4_13.but (nm0_0_mr)
        have m1_2 := m1_2.off hU4_13.but (nmr_1_2.symm)
        have m2_1 := m2_1.off hU4_13.but (nmr_2_1.symm)
        have m4_27 := m4_27.off hU4_13.but (nmr_4_27.symm)
        have hX := hX.upd hU4_13.but grd
        have mr := hU4_13.blk
        refine ⟨(okc (lv_load rfl rfl (ld_blk m2_1 rfl)) (okc (lv_load rfl rfl (ld_blk m2_1 rfl)) (okc (lv_load rfl rfl (ld_blk m2_1 rfl)) (okc (lv_load rfl rfl (ld_blk m2_1 rfl)) (okc (lv_load rfl rfl (ld_blk m2_1 rfl)) (okc (lv_load rfl rfl (ld_blk m2_1 rfl)) okn)))))), ?_⟩
        refine xp_heavy (i := 15) (by kernel_rfl) ?_
        refine xph_val rfl rfl rfl rfl (hv_call (g := 47) rfl rfl (c47 mr m1_2 nmr_1_2.symm) rfl) (pk (by kernel_rfl) (pk (by kernel_rfl) (pk (by kernel_rfl) (pk (by kernel_rfl) (pk (by kernel_rfl) (pd (by kernel_rfl) pn)))))) ?_
        rintro v4_15 H4_15 ⟨n4_15, l4_15, bad4_15, hw4_15, hn4_15, rfl, hU4_15⟩
        have m0_0 := m0_0.off hU4_15.but (nm0_0_mr)
        have m1_2 := m1_2.off hU4_15.but (nmr_1_2.symm)
        have m2_1 := m2_1.off hU4_15.but (nmr_2_1.symm)
        have m4_27 := m4_27.off hU4_15.but (nmr_4_27.symm)
        have hX := hX.upd hU4_15.but grd
        have mr := hU4_15.blk
        refine ⟨(okc (lv_load rfl rfl (ld_blk m2_1 rfl)) (okc (lv_load rfl rfl (ld_blk m2_1 rfl)) (okc (lv_load rfl rfl (ld_blk m2_1 rfl)) (okc (lv_load rfl rfl (ld_blk m2_1 rfl)) (okc (lv_load rfl rfl (ld_blk m2_1 rfl)) okn))))), ?_⟩
        refine xp_heavy (i := 17) (by kernel_rfl) ?_
        refine xph_val rfl rfl rfl rfl (hv_call (g := 47) rfl rfl (c47 mr m1_2 nmr_1_2.symm) rfl) (pk (by kernel_rfl) (pk (by kernel_rfl) (pk (by kernel_rfl) (pk (by kernel_rfl) (pd (by kernel_rfl) pn))))) ?_
        rintro v4_17 H4_17 ⟨n4_17, l4_17, bad4_17, hw4_17, hn4_17, rfl, hU4_17⟩
        have m0_0 := m0_0.off hU4_17.but (nm0_0_mr)
        have m1_2 := m1_2.off hU4_17.but (nmr_1_2.symm)
        have m2_1 := m2_1.off hU4_17.but (nmr_2_1.symm)
        have m4_27 := m4_27.off hU4_17.but (nmr_4_27.symm)
        have hX := hX.upd hU4_17.but grd
        have mr := hU4_17.blk
        refine ⟨(okc (lv_load rfl rfl (ld_blk m2_1 rfl)) (okc (lv_load rfl rfl (ld_blk m2_1 rfl)) (okc (lv_load rfl rfl (ld_blk m2_1 rfl)) (okc (lv_load rfl rfl (ld_blk m2_1 rfl)) okn)))), ?_⟩
        refine xp_heavy (i := 19) (by kernel_rfl) ?_
        refine xph_val rfl rfl rfl rfl (hv_call (g := 47) rfl rfl (c47 mr m1_2 nmr_1_2.symm) rfl) (pk (by kernel_rfl) (pk (by kernel_rfl) (pk (by kernel_rfl) (pd (by kernel_rfl) pn)))) ?_
        rintro v4_19 H4_19 ⟨n4_19, l4_19, bad4_19, hw4_19, hn4_19, rfl, hU4_19⟩
        have m0_0 := m0_0.off hU4_19.but (nm0_0_mr)
        have m1_2 := m1_2.off hU4_19.but (nmr_1_2.symm)
        have m2_1 := m2_1.off hU4_19.but (nmr_2_1.symm)
        have m4_27 := m4_27.off hU4_19.but (nmr_4_27.symm)
        have hX := hX.upd hU4_19.but grd
        have mr := hU4_19.blk
        refine ⟨(okc (lv_load rfl rfl (ld_blk m2_1 rfl)) (okc (lv_load rfl rfl (ld_blk m2_1 rfl)) (okc (lv_load rfl rfl (ld_blk m2_1 rfl)) okn))), ?_⟩
        refine xp_heavy (i := 21) (by kernel_rfl) ?_
        refine xph_val rfl rfl rfl rfl (hv_call (g := 47) rfl rfl (c47 mr m1_2 nmr_1_2.symm) rfl) (pk (by kernel_rfl) (pk (by kernel_rfl) (pd (by kernel_rfl) pn))) ?_
        rintro v4_21 H4_21 ⟨n4_21, l4_21, bad4_21, hw4_21, hn4_21, rfl, hU4_21⟩
        have m0_0 := m0_0.off hU4_21.but (nm0_0_mr)
        have m1_2 := m1_2.off hU4_21.but (nmr_1_2.symm)
        have m2_1 := m2_1.off hU4_21.but (nmr_2_1.symm)
        have m4_27 := m4_27.off hU4_21.but (nmr_4_27.symm)
        have hX := hX.upd hU4_21.but grd
        have mr := hU4_21.blk
        refine ⟨(okc (lv_load rfl rfl (ld_blk m2_1 rfl)) (okc (lv_load rfl rfl (ld_blk m2_1 rfl)) okn)), ?_⟩
        refine xp_heavy (i := 23) (by kernel_rfl) ?_
        refine xph_val rfl rfl rfl rfl (hv_call (g := 47) rfl rfl (c47 mr m1_2 nmr_1_2.symm) rfl) (pk (by kernel_rfl) (pd (by kernel_rfl) pn)) ?_
        rintro v4_23 H4_23 ⟨n4_23, l4_23, bad4_23, hw4_23, hn4_23, rfl, hU4_23⟩
        have m0_0 := m0_0.off hU4_23.but (nm0_0_mr)
        have m1_2 := m1_2.off hU4_23.but (nmr_1_2.symm)
        have m2_1 := m2_1.off hU4_23.but (nmr_2_1.symm)
        have m4_27 := m4_27.off hU4_23.but (nmr_4_27.symm)
        have hX := hX.upd hU4_23.but grd
        have mr := hU4_23.blk
        refine ⟨(okc (lv_load rfl rfl (ld_blk m2_1 rfl)) okn), ?_⟩
        refine xp_heavy (i := 25) (by kernel_rfl) ?_
        refine xph_val rfl rfl rfl rfl (hv_call (g := 47) rfl rfl (c47 mr m1_2 nmr_1_2.symm) rfl) (pd (by kernel_rfl) pn) ?_
        rintro v4_25 H4_25 ⟨n4_25, l4_25, bad4_25, hw4_25, hn4_25, rfl, hU4_25⟩
        have m0_0 := m0_0.off hU4_25.but (nm0_0_mr)
        have m1_2 := m1_2.off hU4_25.but (nmr_1_2.symm)
        have m2_1 := m2_1.off hU4_25.but (nmr_2_1.symm)
        have m4_27 := m4_27.off hU4_25.but (nmr_4_27.symm)
        have hX := hX.upd hU4_25.but grd
        have mr := hU4_25.blk
        refine ⟨okn, ?_⟩
        refine xp_pure (i := 26) rfl (by kernel_rfl) (by kernel_rfl) rfl rfl rfl (pv_build_s (cs := dcs (mkD [(n4_1 : Int), (n4_3 : Int), (n4_5 : Int), (n4_7 : Int), (n4_9 : Int), (n4_11 : Int), (n4_13 : Int), (n4_15 : Int), (n4_17 : Int), (n4_19 : Int), (n4_21 : Int), (n4_23 : Int), (n4_25 : Int)] [] [] []) none none 0 0) rfl rfl (by kernel_rfl)) ?_
        refine xp_heavy (i := 28) (by kernel_rfl) ?_
        refine xph_store rfl rfl rfl (hv_storeA (vs := dcs (mkD [(n4_1 : Int), (n4_3 : Int), (n4_5 : Int), (n4_7 : Int), (n4_9 : Int), (n4_11 : Int), (n4_13 : Int), (n4_15 : Int), (n4_17 : Int), (n4_19 : Int), (n4_21 : Int), (n4_23 : Int), (n4_25 : Int)] [] [] []) none none 0 0) rfl rfl rfl (m4_27) rfl (by rfl) rfl) pn ?_
        rintro v4_28 H4_28 ⟨hU4_28, hZ4_28⟩
        have m0_0 := m0_0.off hU4_28.but (nm0_0_4_27)
        have mr := mr.off hU4_28.but (nmr_4_27)
        have m1_2 := m1_2.off hU4_28.but (nm1_2_4_27)
        have m2_1 := m2_1.off hU4_28.but (nm2_1_4_27)
        have hX := hX.upd hU4_28.but gb4_27
        have m4_27 := hU4_28.blk
        refine ⟨okn, ?_⟩
        refine xp_done (by kernel_rfl) ?_
        refine xthen_normal ?_
        exact ⟨([(n4_1 : Int), (n4_3 : Int), (n4_5 : Int), (n4_7 : Int), (n4_9 : Int), (n4_11 : Int), (n4_13 : Int), (n4_15 : Int), (n4_17 : Int), (n4_19 : Int), (n4_21 : Int), (n4_23 : Int), (n4_25 : Int)], _, _, _), ⟨rfl, rfl, rfl, rfl, rfl, trivial⟩, ⟨rdU_13 hw4_1 hw4_3 hw4_5 hw4_7 hw4_9 hw4_11 hw4_13 hw4_15 hw4_17 hw4_19 hw4_21 hw4_23 hw4_25, m0_0, mr, m1_2, m2_1, m4_27, gb4_27, nm0_0_4_27, nmr_4_27, nm1_2_4_27, nm2_1_4_27, hX⟩⟩
    · skip
      refine xph_val rfl rfl rfl rfl (hv_alloc rfl rfl) (pk (by kernel_rfl) (pk (by kernel_rfl) (pk (by kernel_rfl) (pk (by kernel_rfl) (pk (by kernel_rfl) (pk (by kernel_rfl) (pk (by kernel_rfl) (pk (by kernel_rfl) (pk (by kernel_rfl) (pk (by kernel_rfl) (pk (by kernel_rfl) (pk (by kernel_rfl) (pk (by kernel_rfl) pn))))))))))))) ?_
      rintro v4_27 H4_27 ⟨b4_27, rfl, hN4_27⟩
      have gb4_27 := hX.fresh hN4_27
      have nm0_0_4_27 := m0_0.apart hN4_27
      have nmr_4_27 := mr.apart hN4_27
      have nm1_2_4_27 := m1_2.apart hN4_27
      have nm2_1_4_27 := m2_1.apart hN4_27
      have m0_0 := m0_0.ext hN4_27.ext
      have mr := mr.ext hN4_27.ext
      have m1_2 := m1_2.ext hN4_27.ext
      have m2_1 := m2_1.ext hN4_27.ext
      have hX := hX.trans hN4_27.ext
      have m4_27 := hN4_27.blk
      refine ⟨(okc (lv_load rfl rfl (ld_blk m2_1 rfl)) (okc (lv_load rfl rfl (ld_blk m2_1 rfl)) (okc (lv_load rfl rfl (ld_blk m2_1 rfl)) (okc (lv_load rfl rfl (ld_blk m2_1 rfl)) (okc (lv_load rfl rfl (ld_blk m2_1 rfl)) (okc (lv_load rfl rfl (ld_blk m2_1 rfl)) (okc (lv_load rfl rfl (ld_blk m2_1 rfl)) (okc (lv_load rfl rfl (ld_blk m2_1 rfl)) (okc (lv_load rfl rfl (ld_blk m2_1 rfl)) (okc (lv_load rfl rfl (ld_blk m2_1 rfl)) (okc (lv_load rfl rfl (ld_blk m2_1 rfl)) (okc (lv_load rfl rfl (ld_blk m2_1 rfl)) (okc (lv_load rfl rfl (ld_blk m2_1 rfl)) okn))))))))))))), ?_⟩
      refine xp_heavy (i := 1) (by kernel_rfl) ?_
      refine xph_val rfl rfl rfl rfl (hv_call (g := 47) rfl rfl (c47 mr m1_2 nmr_1_2.symm) rfl) (pk (by kernel_rfl) (pk (by kernel_rfl) (pk (by kernel_rfl) (pk (by kernel_rfl) (pk (by kernel_rfl) (pk (by kernel_rfl) (pk (by kernel_rfl) (pk (by kernel_rfl) (pk (by kernel_rfl) (pk (by kernel_rfl) (pk (by kernel_rfl) (pk (by kernel_rfl) (pd (by kernel_rfl) pn))))))))))))) ?_
      rintro v4_1 H4_1 ⟨n4_1, l4_1, bad4_1, hw4_1, hn4_1, rfl, hU4_1⟩
      have m0_0 := m0_0.off hU4_1.but (nm0_0_mr)
      have m1_2 := m1_2.off hU4_1.but (nmr_1_2.symm)
      have m2_1 := m2_1.off hU4_1.but (nmr_2_1.symm)
      have m4_27 := m4_27.off hU4_1.but (nmr_4_27.symm)
      have hX := hX.upd hU4_1.but grd
      have mr := hU4_1.blk
      refine ⟨(okc (lv_load rfl rfl (ld_blk m2_1 rfl)) (okc (lv_load rfl rfl (ld_blk m2_1 rfl)) (okc (lv_load rfl rfl (ld_blk m2_1 rfl)) (okc (lv_load rfl rfl (ld_blk m2_1 rfl)) (okc (lv_load rfl rfl (ld_blk m2_1 rfl)) (okc (lv_load rfl rfl (ld_blk m2_1 rfl)) (okc (lv_load rfl rfl (ld_blk m2_1 rfl)) (okc (lv_load rfl rfl (ld_blk m2_1 rfl)) (okc (lv_load rfl rfl (ld_blk m2_1 rfl)) (okc (lv_load rfl rfl (ld_blk m2_1 rfl)) (okc (lv_load rfl rfl (ld_blk m2_1 rfl)) (okc (lv_load rfl rfl (ld_blk m2_1 rfl)) okn)))))))))))), ?_⟩
      refine xp_heavy (i := 3) (by kernel_rfl) ?_
      refine xph_val rfl rfl rfl rfl (hv_call (g := 47) rfl rfl (c47 mr m1_2 nmr_1_2.symm) rfl) (pk (by kernel_rfl) (pk (by kernel_rfl) (pk (by kernel_rfl) (pk (by kernel_rfl) (pk (by kernel_rfl) (pk (by kernel_rfl) (pk (by kernel_rfl) (pk (by kernel_rfl) (pk (by kernel_rfl) (pk (by kernel_rfl) (pk (by kernel_rfl) (pd (by kernel_rfl) pn)))))))))))) ?_
      rintro v4_3 H4_3 ⟨n4_3, l4_3, bad4_3, hw4_3, hn4_3, rfl, hU4_3⟩
      have m0_0 := m0_0.off hU4_3.but (nm0_0_mr)
      have m1_2 := m1_2.off hU4_3.but (nmr_1_2.symm)
      have m2_1 := m2_1.off hU4_3.but (nmr_2_1.symm)
      have m4_27 := m4_27.off hU4_3.but (nmr_4_27.symm)
      have hX := hX.upd hU4_3.but grd
      have mr := hU4_3.blk
      refine ⟨(okc (lv_load rfl rfl (ld_blk m2_1 rfl)) (okc (lv_load rfl rfl (ld_blk m2_1 rfl)) (okc (lv_load rfl rfl (ld_blk m2_1 rfl)) (okc (lv_load rfl rfl (ld_blk m2_1 rfl)) (okc (lv_load rfl rfl (ld_blk m2_1 rfl)) (okc (lv_load rfl rfl (ld_blk m2_1 rfl)) (okc (lv_load rfl rfl (ld_blk m2_1 rfl)) (okc (lv_load rfl rfl (ld_blk m2_1 rfl)) (okc (lv_load rfl rfl (ld_blk m2_1 rfl)) (okc (lv_load rfl rfl (ld_blk m2_1 rfl)) (okc (lv_load rfl rfl (ld_blk m2_1 rfl)) okn))))))))))), ?_⟩
      refine xp_heavy (i := 5) (by kernel_rfl) ?_
      refine xph_val rfl rfl rfl rfl (hv_call (g := 47) rfl rfl (c47 mr m1_2 nmr_1_2.symm) rfl) (pk (by kernel_rfl) (pk (by kernel_rfl) (pk (by kernel_rfl) (pk (by kernel_rfl) (pk (by kernel_rfl) (pk (by kernel_rfl) (pk (by kernel_rfl) (pk (by kernel_rfl) (pk (by kernel_rfl) (pk (by kernel_rfl) (pd (by kernel_rfl) pn))))))))))) ?_
      rintro v4_5 H4_5 ⟨n4_5, l4_5, bad4_5, hw4_5, hn4_5, rfl, hU4_5⟩
      have m0_0 := m0_0.off hU4_5.but (nm0_0_mr)
      have m1_2 := m1_2.off hU4_5.but (nmr_1_2.symm)
      have m2_1 := m2_1.off hU4_5.but (nmr_2_1.symm)
      have m4_27 := m4_27.off hU4_5.but (nmr_4_27.symm)
      have hX := hX.upd hU4_5.but grd
      have mr := hU4_5.blk
      refine ⟨(okc (lv_load rfl rfl (ld_blk m2_1 rfl)) (okc (lv_load rfl rfl (ld_blk m2_1 rfl)) (okc (lv_load rfl rfl (ld_blk m2_1 rfl)) (okc (lv_load rfl rfl (ld_blk m2_1 rfl)) (okc (lv_load rfl rfl (ld_blk m2_1 rfl)) (okc (lv_load rfl rfl (ld_blk m2_1 rfl)) (okc (lv_load rfl rfl (ld_blk m2_1 rfl)) (okc (lv_load rfl rfl (ld_blk m2_1 rfl)) (okc (lv_load rfl rfl (ld_blk m2_1 rfl)) (okc (lv_load rfl rfl (ld_blk m2_1 rfl)) okn)))))))))), ?_⟩
      refine xp_heavy (i := 7) (by kernel_rfl) ?_
      refine xph_val rfl rfl rfl rfl (hv_call (g := 47) rfl rfl (c47 mr m1_2 nmr_1_2.symm) rfl) (pk (by kernel_rfl) (pk (by kernel_rfl) (pk (by kernel_rfl) (pk (by kernel_rfl) (pk (by kernel_rfl) (pk (by kernel_rfl) (pk (by kernel_rfl) (pk (by kernel_rfl) (pk (by kernel_rfl) (pd (by kernel_rfl) pn)))))))))) ?_
      rintro v4_7 H4_7 ⟨n4_7, l4_7, bad4_7, hw4_7, hn4_7, rfl, hU4_7⟩
      have m0_0 := m0_0.off hU4_7.but (nm0_0_mr)
      have m1_2 := m1_2.off hU4_7.but (nmr_1_2.symm)
      have m2_1 := m2_1.off hU4_7.but (nmr_2_1.symm)
      have m4_27 := m4_27.off hU4_7.but (nmr_4_27.symm)
      have hX := hX.upd hU4_7.but grd
      have mr := hU4_7.blk
      refine ⟨(okc (lv_load rfl rfl (ld_blk m2_1 rfl)) (okc (lv_load rfl rfl (ld_blk m2_1 rfl)) (okc (lv_load rfl rfl (ld_blk m2_1 rfl)) (okc (lv_load rfl rfl (ld_blk m2_1 rfl)) (okc (lv_load rfl rfl (ld_blk m2_1 rfl)) (okc (lv_load rfl rfl (ld_blk m2_1 rfl)) (okc (lv_load rfl rfl (ld_blk m2_1 rfl)) (okc (lv_load rfl rfl (ld_blk m2_1 rfl)) (okc (lv_load rfl rfl (ld_blk m2_1 rfl)) okn))))))))), ?_⟩
      refine xp_heavy (i := 9) (by kernel_rfl) ?_
      refine xph_val rfl rfl rfl rfl (hv_call (g := 47) rfl rfl (c47 mr m1_2 nmr_1_2.symm) rfl) (pk (by kernel_rfl) (pk (by kernel_rfl) (pk (by kernel_rfl) (pk (by kernel_rfl) (pk (by kernel_rfl) (pk (by kernel_rfl) (pk (by kernel_rfl) (pk (by kernel_rfl) (pd (by kernel_rfl) pn))))))))) ?_
      rintro v4_9 H4_9 ⟨n4_9, l4_9, bad4_9, hw4_9, hn4_9, rfl, hU4_9⟩
      have m0_0 := m0_0.off hU4_9.but (nm0_0_mr)
      have m1_2 := m1_2.off hU4_9.but (nmr_1_2.symm)
      have m2_1 := m2_1.off hU4_9.but (nmr_2_1.symm)
      have m4_27 := m4_27.off hU4_9.but (nmr_4_27.symm)
      have hX := hX.upd hU4_9.but grd
      have mr := hU4_9.blk
      refine ⟨(okc (lv_load rfl rfl (ld_blk m2_1 rfl)) (okc (lv_load rfl rfl (ld_blk m2_1 rfl)) (okc (lv_load rfl rfl (ld_blk m2_1 rfl)) (okc (lv_load rfl rfl (ld_blk m2_1 rfl)) (okc (lv_load rfl rfl (ld_blk m2_1 rfl)) (okc (lv_load rfl rfl (ld_blk m2_1 rfl)) (okc (lv_load rfl rfl (ld_blk m2_1 rfl)) (okc (lv_load rfl rfl (ld_blk m2_1 rfl)) okn)))))))), ?_⟩
      refine xp_heavy (i := 11) (by kernel_rfl) ?_
      refine xph_val rfl rfl rfl rfl (hv_call (g := 47) rfl rfl (c47 mr m1_2 nmr_1_2.symm) rfl) (pk (by kernel_rfl) (pk (by kernel_rfl) (pk (by kernel_rfl) (pk (by kernel_rfl) (pk (by kernel_rfl) (pk (by kernel_rfl) (pk (by kernel_rfl) (pd (by kernel_rfl) pn)))))))) ?_
      rintro v4_11 H4_11 ⟨n4_11, l4_11, bad4_11, hw4_11, hn4_11, rfl, hU4_11⟩
      have m0_0 := m0_0.off hU4_11.but (nm0_0_mr)
      have m1_2 := m1_2.off hU4_11.but (nmr_1_2.symm)
      have m2_1 := m2_1.off hU4_11.but (nmr_2_1.symm)
      have m4_27 := m4_27.off hU4_11.but (nmr_4_27.symm)
      have hX := hX.upd hU4_11.but grd
      have mr := hU4_11.blk
      refine ⟨(okc (lv_load rfl rfl (ld_blk m2_1 rfl)) (okc (lv_load rfl rfl (ld_blk m2_1 rfl)) (okc (lv_load rfl rfl (ld_blk m2_1 rfl)) (okc (lv_load rfl rfl (ld_blk m2_1 rfl)) (okc (lv_load rfl rfl (ld_blk m2_1 rfl)) (okc (lv_load rfl rfl (ld_blk m2_1 rfl)) (okc (lv_load rfl rfl (ld_blk m2_1 rfl)) okn))))))), ?_⟩
      refine xp_heavy (i := 13) (by kernel_rfl) ?_
      refine xph_val rfl rfl rfl rfl (hv_call (g := 47) rfl rfl (c47 mr m1_2 nmr_1_2.symm) rfl) (pk (by kernel_rfl) (pk (by kernel_rfl) (pk (by kernel_rfl) (pk (by kernel_rfl) (pk (by kernel_rfl) (pk (by kernel_rfl) (pd (by kernel_rfl) pn))))))) ?_
      rintro v4_13 H4_13 ⟨n4_13, l4_13, bad4_13, hw4_13, hn4_13, rfl, hU4_13⟩
      have m0_0 := m0_0.off hU4_13.but (nm0_0_mr)
      have m1_2 := m1_2.off hU4_13.but (nmr_1_2.symm)
      have m2_1 := m2_1.off hU4_13.but (nmr_2_1.symm)
      have m4_27 := m4_27.off hU4_13.but (nmr_4_27.symm)
      have hX := hX.upd hU4_13.but grd
      have mr := hU4_13.blk
      refine ⟨(okc (lv_load rfl rfl (ld_blk m2_1 rfl)) (okc (lv_load rfl rfl (ld_blk m2_1 rfl)) (okc (lv_load rfl rfl (ld_blk m2_1 rfl)) (okc (lv_load rfl rfl (ld_blk m2_1 rfl)) (okc (lv_load rfl rfl (ld_blk m2_1 rfl)) (okc (lv_load rfl rfl (ld_blk m2_1 rfl)) okn)))))), ?_⟩
      refine xp_heavy (i := 15) (by kernel_rfl) ?_
      refine xph_val rfl rfl rfl rfl (hv_call (g := 47) rfl rfl (c47 mr m1_2 nmr_1_2.symm) rfl) (pk (by kernel_rfl) (pk (by kernel_rfl) (pk (by kernel_rfl) (pk (by kernel_rfl) (pk (by kernel_rfl) (pd (by kernel_rfl) pn)))))) ?_
      rintro v4_15 H4_15 ⟨n4_15, l4_15, bad4_15, hw4_15, hn4_15, rfl, hU4_15⟩
      have m0_0 := m0_0.off hU4_15.but (nm0_0_mr)
      have m1_2 := m1_2.off hU4_15.but (nmr_1_2.symm)
      have m2_1 := m2_1.off hU4_15.but (nmr_2_1.symm)
      have m4_27 := m4_27.off hU4_15.but (nmr_4_27.symm)
      have hX := hX.upd hU4_15.but grd
      have mr := hU4_15.blk
      refine ⟨(okc (lv_load rfl rfl (ld_blk m2_1 rfl)) (okc (lv_load rfl rfl (ld_blk m2_1 rfl)) (okc (lv_load rfl rfl (ld_blk m2_1 rfl)) (okc (lv_load rfl rfl (ld_blk m2_1 rfl)) (okc (lv_load rfl rfl (ld_blk m2_1 rfl)) okn))))), ?_⟩
      refine xp_heavy (i := 17) (by kernel_rfl) ?_
      refine xph_val rfl rfl rfl rfl (hv_call (g := 47) rfl rfl (c47 mr m1_2 nmr_1_2.symm) rfl) (pk (by kernel_rfl) (pk (by kernel_rfl) (pk (by kernel_rfl) (pk (by kernel_rfl) (pd (by kernel_rfl) pn))))) ?_
      rintro v4_17 H4_17 ⟨n4_17, l4_17, bad4_17, hw4_17, hn4_17, rfl, hU4_17⟩
      have m0_0 := m0_0.off hU4_17.but (nm0_0_mr)
      have m1_2 := m1_2.off hU4_17.but (nmr_1_2.symm)
      have m2_1 := m2_1.off hU4_17.but (nmr_2_1.symm)
      have m4_27 := m4_27.off hU4_17.but (nmr_4_27.symm)
      have hX := hX.upd hU4_17.but grd
      have mr := hU4_17.blk
      refine ⟨(okc (lv_load rfl rfl (ld_blk m2_1 rfl)) (okc (lv_load rfl rfl (ld_blk m2_1 rfl)) (okc (lv_load rfl rfl (ld_blk m2_1 rfl)) (okc (lv_load rfl rfl (ld_blk m2_1 rfl)) okn)))), ?_⟩
      refine xp_heavy (i := 19) (by kernel_rfl) ?_
      refine xph_val rfl rfl rfl rfl (hv_call (g := 47) rfl rfl (c47 mr m1_2 nmr_1_2.symm) rfl) (pk (by kernel_rfl) (pk (by kernel_rfl) (pk (by kernel_rfl) (pd (by kernel_rfl) pn)))) ?_
      rintro v4_19 H4_19 ⟨n4_19, l4_19, bad4_19, hw4_19, hn4_19, rfl, hU4_19⟩
      have m0_0 := m0_0.off hU4_19.but (nm0_0_mr)
      have m1_2 := m1_2.off hU4_19.but (nmr_1_2.symm)
      have m2_1 := m2_1.off hU4_19.but (nmr_2_1.symm)
      have m4_27 := m4_27.off hU4_19.but (nmr_4_27.symm)
      have hX := hX.upd hU4_19.but grd
      have mr := hU4_19.blk
      refine ⟨(okc (lv_load rfl rfl (ld_blk m2_1 rfl)) (okc (lv_load rfl rfl (ld_blk m2_1 rfl)) (okc (lv_load rfl rfl (ld_blk m2_1 rfl)) okn))), ?_⟩
      refine xp_heavy (i := 21) (by kernel_rfl) ?_
      refine xph_val rfl rfl rfl rfl (hv_call (g := 47) rfl rfl (c47 mr m1_2 nmr_1_2.symm) rfl) (pk (by kernel_rfl) (pk (by kernel_rfl) (pd (by kernel_rfl) pn))) ?_
      rintro v4_21 H4_21 ⟨n4_21, l4_21, bad4_21, hw4_21, hn4_21, rfl, hU4_21⟩
      have m0_0 := m0_0.off hU4_21.but (nm0_0_mr)
      have m1_2 := m1_2.off hU4_21.but (nmr_1_2.symm)
      have m2_1 := m2_1.off hU4_21.but (nmr_2_1.symm)
      have m4_27 := m4_27.off hU4_21.but (nmr_4_27.symm)
      have hX := hX.upd hU4_21.but grd
      have mr := hU4_21.blk
      refine ⟨(okc (lv_load rfl rfl (ld_blk m2_1 rfl)) (okc (lv_load rfl rfl (ld_blk m2_1 rfl)) okn)), ?_⟩
      refine xp_heavy (i := 23) (by kernel_rfl) ?_
      refine xph_val rfl rfl rfl rfl (hv_call (g := 47) rfl rfl (c47 mr m1_2 nmr_1_2.symm) rfl) (pk (by kernel_rfl) (pd (by kernel_rfl) pn)) ?_
      rintro v4_23 H4_23 ⟨n4_23, l4_23, bad4_23, hw4_23, hn4_23, rfl, hU4_23⟩
      have m0_0 := m0_0.off hU4_23.but (nm0_0_mr)
      have m1_2 := m1_2.off hU4_23.but (nmr_1_2.symm)
      have m2_1 := m2_1.off hU4_23.but (nmr_2_1.symm)
      have m4_27 := m4_27.off hU4_23.but (nmr_4_27.symm)
      have hX := hX.upd hU4_23.but grd
      have mr := hU4_23.blk
      refine ⟨(okc (lv_load rfl rfl (ld_blk m2_1 rfl)) okn), ?_⟩
      refine xp_heavy (i := 25) (by kernel_rfl) ?_
      refine xph_val rfl rfl rfl rfl (hv_call (g := 47) rfl rfl (c47 mr m1_2 nmr_1_2.symm) rfl) (pd (by kernel_rfl) pn) ?_
      rintro v4_25 H4_25 ⟨n4_25, l4_25, bad4_25, hw4_25, hn4_25, rfl, hU4_25⟩
      have m0_0 := m0_0.off hU4_25.but (nm0_0_mr)
      have m1_2 := m1_2.off hU4_25.but (nmr_1_2.symm)
      have m2_1 := m2_1.off hU4_25.but (nmr_2_1.symm)
      have m4_27 := m4_27.off hU4_25.but (nmr_4_27.symm)
      have hX := hX.upd hU4_25.but grd
      have mr := hU4_25.blk
      refine ⟨okn, ?_⟩
      refine xp_pure (i := 26) rfl (by kernel_rfl) (by kernel_rfl) rfl rfl rfl (pv_build_s (cs := dcs (mkD [(n4_1 : Int), (n4_3 : Int), (n4_5 : Int), (n4_7 : Int), (n4_9 : Int), (n4_11 : Int), (n4_13 : Int), (n4_15 : Int), (n4_17 : Int), (n4_19 : Int), (n4_21 : Int), (n4_23 : Int), (n4_25 : Int)] [] [] []) none none 0 0) rfl rfl (by kernel_rfl)) ?_
      refine xp_heavy (i := 28) (by kernel_rfl) ?_
      refine xph_store rfl rfl rfl (hv_storeA (vs := dcs (mkD [(n4_1 : Int), (n4_3 : Int), (n4_5 : Int), (n4_7 : Int), (n4_9 : Int), (n4_11 : Int), (n4_13 : Int), (n4_15 : Int), (n4_17 : Int), (n4_19 : Int), (n4_21 : Int), (n4_23 : Int), (n4_25 : Int)] [] [] []) none none 0 0) rfl rfl rfl (m4_27) rfl (by rfl) rfl) pn ?_
      rintro v4_28 H4_28 ⟨hU4_28, hZ4_28⟩
      have m0_0 := m0_0.off hU4_28.but (nm0_0_4_27)
      have mr := mr.off hU4_28.but (nmr_4_27)
      have m1_2 := m1_2.off hU4_28.but (nm1_2_4_27)
      have m2_1 := m2_1.off hU4_28.but (nm2_1_4_27)
      have hX := hX.upd hU4_28.but gb4_27
      have m4_27 := hU4_28.blk
      refine ⟨okn, ?_⟩
      refine xp_done (by kernel_rfl) ?_
      refine xthen_normal ?_
      exact ⟨([(n4_1 : Int), (n4_3 : Int), (n4_5 : Int), (n4_7 : Int), (n4_9 : Int), (n4_11 : Int), (n4_13 : Int), (n4_15 : Int), (n4_17 : Int), (n4_19 : Int), (n4_21 : Int), (n4_23 : Int), (n4_25 : Int)], _, _, _), ⟨rfl, rfl, rfl, rfl, rfl, trivial⟩, ⟨rdU_13 hw4_1 hw4_3 hw4_5 hw4_7 hw4_9 hw4_11 hw4_13 hw4_15 hw4_17 hw4_19 hw4_21 hw4_23 hw4_25, m0_0, mr, m1_2, m2_1, m4_27, gb4_27, nm0_0_4_27, nmr_4_27, nm1_2_4_27, nm2_1_4_27, hX⟩⟩
  · intro σ
    clear hX m0_0 mr m1_2 m2_1
    rintro ⟨ns, l0, bad0, bd⟩ Hm4 ⟨hns, m0_0, mr, m1_2, m2_1, md, gbd, nm0_0_md, nmr_md, nm1_2_md, nm2_1_md, hX⟩
    replace hns : rdU 13 (s, false) = (ns, (l0, bad0)) := hns
    replace m0_0 : Blk Hm4 b0_0 (dcs D0 none none 0 0) 24 := m0_0
    replace mr : Blk Hm4 rd [.string (bs l0), .bool bad0, .bool true] 82 := mr
    replace m1_2 : Blk Hm4 b1_2 [.pointer (some ⟨rd, 0, none⟩)] 66 := m1_2
    replace m2_1 : Blk Hm4 b2_1 [.func (.func 47) #[] #[.pointer (some ⟨b1_2, 0, none⟩)]] 69 := m2_1
    replace md : Blk Hm4 bd (dcs (mkD ns [] [] []) none none 0 0) 24 := md
    replace gbd : Fresh H bd := gbd
    replace nm0_0_md : Apart b0_0 bd := nm0_0_md
    replace nmr_md : Apart rd bd := nmr_md
    replace nm1_2_md : Apart b1_2 bd := nm1_2_md
    replace nm2_1_md : Apart b2_1 bd := nm2_1_md
    replace hX : Ext H Hm4 := hX
    show XC _ _ _ (upds σ [(2, .pointer (some ⟨b0_0, 0, none⟩)), (4, .pointer (some ⟨b1_2, 0, none⟩)), (5, .pointer (some ⟨b2_1, 0, none⟩)), (6, .func (.func 49) #[] #[.pointer (some ⟨b1_2, 0, none⟩), .pointer (some ⟨b2_1, 0, none⟩)]), (7, .pointer (some ⟨bd, 0, none⟩))]) _
    refine xc_seq ?_
    refine xc_region ?_
    refine xl_pure rfl rfl rfl (pv_move rfl rfl) ?_
    refine xl_heavy rfl rfl rfl (hv_call (g := 49) rfl rfl (c49 mr m1_2 m2_1 nmr_1_2.symm nmr_2_1.symm) rfl) ?_
    rintro v5_1 H5_1 ⟨xs5_1, a5_1, c5_1, l5_1, bad5_1, hd5_1, rfl, ho5_1, hx5_1, hU5_1⟩
    have m0_0 := m0_0.off hU5_1.but (nm0_0_mr)
    have m1_2 := m1_2.off hU5_1.but (nmr_1_2.symm)
    have m2_1 := m2_1.off hU5_1.but (nmr_2_1.symm)
    have md := md.off hU5_1.but (nmr_md.symm)
    have hX := hX.upd hU5_1.but grd
    have mr := hU5_1.blk
    refine xl_pure rfl rfl rfl (pv_fieldAddr rfl rfl) ?_
    refine xl_store rfl rfl (hv_store (vs := [.slice _ _ _]) rfl rfl rfl (md) rfl (Nat.le_of_ble_eq_true rfl) rfl) ?_
    rintro v5_3 H5_3 ⟨hU5_3, hZ5_3⟩
    have m0_0 := m0_0.off hU5_3.but (nm0_0_md)
    have mr := mr.off hU5_3.but (nmr_md)
    have m1_2 := m1_2.off hU5_3.but (nm1_2_md)
    have m2_1 := m2_1.off hU5_3.but (nm2_1_md)
    have ho5_1 := ho5_1.offU md hU5_3.but (.inl rfl)
    have hX := hX.upd hU5_3.but gbd
    have md := hU5_3.blk
    refine xl_nil ?_
    refine xthen_normal ?_
    refine xc_seq ?_
    refine xc_region ?_
    refine xl_pure rfl rfl rfl (pv_move rfl rfl) ?_
    refine xl_heavy rfl rfl rfl (hv_call (g := 49) rfl rfl (c49 mr m1_2 m2_1 nmr_1_2.symm nmr_2_1.symm) rfl) ?_
    rintro v6_1 H6_1 ⟨xs6_1, a6_1, c6_1, l6_1, bad6_1, hd6_1, rfl, ho6_1, hx6_1, hU6_1⟩
    have m0_0 := m0_0.off hU6_1.but (nm0_0_mr)
    have m1_2 := m1_2.off hU6_1.but (nmr_1_2.symm)
    have m2_1 := m2_1.off hU6_1.but (nmr_2_1.symm)
    have md := md.off hU6_1.but (nmr_md.symm)
    have ho5_1 := ho5_1.offU mr hU6_1.but (.inl rfl)
    have hX := hX.upd hU6_1.but grd
    have mr := hU6_1.blk
    refine xl_pure rfl rfl rfl (pv_fieldAddr rfl rfl) ?_
    refine xl_store rfl rfl (hv_store (vs := [.slice _ _ _]) rfl rfl rfl (md) rfl (Nat.le_of_ble_eq_true rfl) rfl) ?_
    rintro v6_3 H6_3 ⟨hU6_3, hZ6_3⟩
    have m0_0 := m0_0.off hU6_3.but (nm0_0_md)
    have mr := mr.off hU6_3.but (nmr_md)
    have m1_2 := m1_2.off hU6_3.but (nm1_2_md)
    have m2_1 := m2_1.off hU6_3.but (nm2_1_md)
    have ho5_1 := ho5_1.offU md hU6_3.but (.inl rfl)
    have ho6_1 := ho6_1.offU md hU6_3.but (.inl rfl)
    have hX := hX.upd hU6_3.but gbd
    have md := hU6_3.blk
    refine xl_nil ?_
    refine xthen_normal ?_
    refine xc_seq ?_
    refine xp_start rfl (by repeat (first | with_reducible exact np_fin | with_reducible refine np_then ?_ | with_reducible refine np_block ?_)) (by kernel_rfl) ?_
    refine xp_light (i := 0) rfl (by kernel_rfl) (by kernel_rfl) rfl rfl rfl (lv_load rfl rfl (ld_blk m2_1 rfl)) ?_
    refine xp_light (i := 2) rfl (by kernel_rfl) (by kernel_rfl) rfl rfl rfl (lv_load rfl rfl (ld_blk m2_1 rfl)) ?_
    refine xp_light (i := 4) rfl (by kernel_rfl) (by kernel_rfl) rfl rfl rfl (lv_load rfl rfl (ld_blk m2_1 rfl)) ?_
    refine xp_light (i := 6) rfl (by kernel_rfl) (by kernel_rfl) rfl rfl rfl (lv_load rfl rfl (ld_blk m2_1 rfl)) ?_
    refine xp_heavy (i := 1) (by kernel_rfl) ?_
    refine xph_val rfl rfl rfl rfl (hv_call (g := 47) rfl rfl (c47 mr m1_2 nmr_1_2.symm) rfl) (pk (by kernel_rfl) (pk (by kernel_rfl) (pk (by kernel_rfl) (pd (by kernel_rfl) pn)))) ?_
    rintro v7_1 H7_1 ⟨n7_1, l7_1, bad7_1, hw7_1, hn7_1, rfl, hU7_1⟩
    have m0_0 := m0_0.off hU7_1.but (nm0_0_mr)
    have m1_2 := m1_2.off hU7_1.but (nmr_1_2.symm)
    have m2_1 := m2_1.off hU7_1.but (nmr_2_1.symm)
    have md := md.off hU7_1.but (nmr_md.symm)
    have ho5_1 := ho5_1.offU mr hU7_1.but (.inl rfl)
    have ho6_1 := ho6_1.offU mr hU7_1.but (.inl rfl)
    have hX := hX.upd hU7_1.but grd
    have mr := hU7_1.blk
    refine ⟨(okc (lv_load rfl rfl (ld_blk m2_1 rfl)) (okc (lv_load rfl rfl (ld_blk m2_1 rfl)) (okc (lv_load rfl rfl (ld_blk m2_1 rfl)) okn))), ?_⟩
    refine xp_pure (i := 8) rfl (by kernel_rfl) (by kernel_rfl) rfl rfl rfl (pv_fieldAddr rfl rfl) ?_
    refine xp_heavy (i := 3) (by kernel_rfl) ?_
    refine xph_val rfl rfl rfl rfl (hv_call (g := 47) rfl rfl (c47 mr m1_2 nmr_1_2.symm) rfl) (pk (by kernel_rfl) (pk (by kernel_rfl) (pd (by kernel_rfl) pn))) ?_
    rintro v7_3 H7_3 ⟨n7_3, l7_3, bad7_3, hw7_3, hn7_3, rfl, hU7_3⟩
    have m0_0 := m0_0.off hU7_3.but (nm0_0_mr)
    have m1_2 := m1_2.off hU7_3.but (nmr_1_2.symm)
    have m2_1 := m2_1.off hU7_3.but (nmr_2_1.symm)
    have md := md.off hU7_3.but (nmr_md.symm)
    have ho5_1 := ho5_1.offU mr hU7_3.but (.inl rfl)
    have ho6_1 := ho6_1.offU mr hU7_3.but (.inl rfl)
    have hX := hX.upd hU7_3.but grd
    have mr := hU7_3.blk
    refine ⟨(okc (lv_load rfl rfl (ld_blk m2_1 rfl)) (okc (lv_load rfl rfl (ld_blk m2_1 rfl)) okn)), ?_⟩
    refine xp_heavy (i := 5) (by kernel_rfl) ?_
    refine xph_val rfl rfl rfl rfl (hv_call (g := 47) rfl rfl (c47 mr m1_2 nmr_1_2.symm) rfl) (pk (by kernel_rfl) (pd (by kernel_rfl) pn)) ?_
    rintro v7_5 H7_5 ⟨n7_5, l7_5, bad7_5, hw7_5, hn7_5, rfl, hU7_5⟩
    have m0_0 := m0_0.off hU7_5.but (nm0_0_mr)
    have m1_2 := m1_2.off hU7_5.but (nmr_1_2.symm)
    have m2_1 := m2_1.off hU7_5.but (nmr_2_1.symm)
    have md := md.off hU7_5.but (nmr_md.symm)
    have ho5_1 := ho5_1.offU mr hU7_5.but (.inl rfl)
    have ho6_1 := ho6_1.offU mr hU7_5.but (.inl rfl)
    have hX := hX.upd hU7_5.but grd
    have mr := hU7_5.blk
    refine ⟨(okc (lv_load rfl rfl (ld_blk m2_1 rfl)) okn), ?_⟩
    refine xp_heavy (i := 7) (by kernel_rfl) ?_
    refine xph_val rfl rfl rfl rfl (hv_call (g := 47) rfl rfl (c47 mr m1_2 nmr_1_2.symm) rfl) (pd (by kernel_rfl) pn) ?_
    rintro v7_7 H7_7 ⟨n7_7, l7_7, bad7_7, hw7_7, hn7_7, rfl, hU7_7⟩
    have m0_0 := m0_0.off hU7_7.but (nm0_0_mr)
    have m1_2 := m1_2.off hU7_7.but (nmr_1_2.symm)
    have m2_1 := m2_1.off hU7_7.but (nmr_2_1.symm)
    have md := md.off hU7_7.but (nmr_md.symm)
    have ho5_1 := ho5_1.offU mr hU7_7.but (.inl rfl)
    have ho6_1 := ho6_1.offU mr hU7_7.but (.inl rfl)
    have hX := hX.upd hU7_7.but grd
    have mr := hU7_7.blk
    refine ⟨okn, ?_⟩
    refine xp_heavy (i := 9) (by kernel_rfl) ?_
    refine xph_store rfl rfl rfl (hv_store (vs := [.int _ _]) rfl rfl rfl (md) rfl (Nat.le_of_ble_eq_true rfl) rfl) pn ?_
    rintro v7_9 H7_9 ⟨hU7_9, hZ7_9⟩
    have m0_0 := m0_0.off hU7_9.but (nm0_0_md)
    have mr := mr.off hU7_9.but (nmr_md)
    have m1_2 := m1_2.off hU7_9.but (nm1_2_md)
    have m2_1 := m2_1.off hU7_9.but (nm2_1_md)
    have ho5_1 := ho5_1.offU md hU7_9.but (.inl rfl)
    have ho6_1 := ho6_1.offU md hU7_9.but (.inl rfl)
    have hX := hX.upd hU7_9.but gbd
    have md := hU7_9.blk
    refine ⟨okn, ?_⟩
    refine xp_pure (i := 10) rfl (by kernel_rfl) (by kernel_rfl) rfl rfl rfl (pv_fieldAddr rfl rfl) ?_
    refine xp_heavy (i := 11) (by kernel_rfl) ?_
    refine xph_store rfl rfl rfl (hv_store (vs := [.int _ _]) rfl rfl rfl (md) rfl (Nat.le_of_ble_eq_true rfl) rfl) pn ?_
    rintro v7_11 H7_11 ⟨hU7_11, hZ7_11⟩
    have m0_0 := m0_0.off hU7_11.but (nm0_0_md)
    have mr := mr.off hU7_11.but (nmr_md)
    have m1_2 := m1_2.off hU7_11.but (nm1_2_md)
    have m2_1 := m2_1.off hU7_11.but (nm2_1_md)
    have ho5_1 := ho5_1.offU md hU7_11.but (.inl rfl)
    have ho6_1 := ho6_1.offU md hU7_11.but (.inl rfl)
    have hX := hX.upd hU7_11.but gbd
    have md := hU7_11.blk
    refine ⟨okn, ?_⟩
    refine xp_pure (i := 12) rfl (by kernel_rfl) (by kernel_rfl) rfl rfl rfl (pv_fieldAddr rfl rfl) ?_
    refine xp_heavy (i := 13) (by kernel_rfl) ?_
    refine xph_store rfl rfl rfl (hv_store (vs := [.int _ _]) rfl rfl rfl (md) rfl (Nat.le_of_ble_eq_true rfl) rfl) pn ?_
    rintro v7_13 H7_13 ⟨hU7_13, hZ7_13⟩
    have m0_0 := m0_0.off hU7_13.but (nm0_0_md)
    have mr := mr.off hU7_13.but (nmr_md)
    have m1_2 := m1_2.off hU7_13.but (nm1_2_md)
    have m2_1 := m2_1.off hU7_13.but (nm2_1_md)
    have ho5_1 := ho5_1.offU md hU7_13.but (.inl rfl)
    have ho6_1 := ho6_1.offU md hU7_13.but (.inl rfl)
    have hX := hX.upd hU7_13.but gbd
    have md := hU7_13.blk
    refine ⟨okn, ?_⟩
    refine xp_pure (i := 14) rfl (by kernel_rfl) (by kernel_rfl) rfl rfl rfl (pv_fieldAddr rfl rfl) ?_
    refine xp_heavy (i := 15) (by kernel_rfl) ?_
    refine xph_store rfl rfl rfl (hv_store (vs := [.int _ _]) rfl rfl rfl (md) rfl (Nat.le_of_ble_eq_true rfl) rfl) pn ?_
    rintro v7_15 H7_15 ⟨hU7_15, hZ7_15⟩
    have m0_0 := m0_0.off hU7_15.but (nm0_0_md)
    have mr := mr.off hU7_15.but (nmr_md)
    have m1_2 := m1_2.off hU7_15.but (nm1_2_md)
    have m2_1 := m2_1.off hU7_15.but (nm2_1_md)
    have ho5_1 := ho5_1.offU md hU7_15.but (.inl rfl)
    have ho6_1 := ho6_1.offU md hU7_15.but (.inl rfl)
    have hX := hX.upd hU7_15.but gbd
    have md := hU7_15.blk
    refine ⟨okn, ?_⟩
    refine xp_done (by kernel_rfl) ?_
    refine xthen_normal ?_
    refine xc_seq ?_
    refine xc_seq ?_
    refine xc_region ?_
    refine xl_light rfl rfl rfl (lv_load (v := .pointer _) rfl rfl (ld_blk m1_2 rfl)) ?_
    refine xl_heavy rfl rfl rfl (hv_call (g := 50) rfl rfl (p26 mr) rfl) ?_
    rintro v8_1 H8_1 ⟨rfl, rfl⟩
    cases hdn : doneS (l7_7, bad7_7)
    · skip
      refine xl_pure rfl rfl rfl (pv_not rfl rfl) ?_
      refine xl_pure rfl rfl rfl (pv_move (v := .bool _) rfl rfl) ?_
      refine xl_skip rfl rfl rfl ?_
      refine xl_skip rfl rfl rfl ?_
      refine xl_skip rfl rfl rfl ?_
      refine xl_pure rfl rfl rfl (pv_pick_t (v := .bool _) rfl rfl rfl) ?_
      refine xl_nil ?_
      refine xthen_normal ?_
      refine xc_cond_t rfl ?_
      refine xc_seq ?_
      refine xc_region ?_
      refine xl_pure rfl rfl rfl (pv_build_s (cs := [.int _ _, .int _ _, .int _ _, .int _ _, .int _ _, .int _ _, .int _ _, .int _ _, .int _ _, .int _ _, .int _ _, .int _ _, .int _ _, .slice _ _ _, .slice _ _ _, .int _ _, .int _ _, .int _ _, .int _ _]) rfl rfl rfl) ?_
      refine xl_store rfl rfl (hv_storeA (vs := [.int _ _, .int _ _, .int _ _, .int _ _, .int _ _, .int _ _, .int _ _, .int _ _, .int _ _, .int _ _, .int _ _, .int _ _, .int _ _, .slice _ _ _, .slice _ _ _, .int _ _, .int _ _, .int _ _, .int _ _]) rfl rfl rfl (m0_0) rfl (by rfl) rfl) ?_
      rintro v9_1 H9_1 ⟨hU9_1, hZ9_1⟩
      have mr := mr.off hU9_1.but (nm0_0_mr.symm)
      have m1_2 := m1_2.off hU9_1.but (nm0_0_1_2.symm)
      have m2_1 := m2_1.off hU9_1.but (nm0_0_2_1.symm)
      have md := md.off hU9_1.but (nm0_0_md.symm)
      have ho5_1 := ho5_1.offU m0_0 hU9_1.but (.inl rfl)
      have ho6_1 := ho6_1.offU m0_0 hU9_1.but (.inl rfl)
      have hX := hX.upd hU9_1.but gb0_0
      have m0_0 := hU9_1.blk
      refine xl_pure rfl rfl rfl (pv_assign (v := .int _ _) rfl rfl) ?_
      refine xl_nil ?_
      refine xthen_normal ?_
      refine xc_ret ?_
      refine xthen_ret ?_
      refine fin_ret (resv2 rfl (rv_c (ty := 24) rfl (ld_blk_a m0_0 rfl rfl)) (rv_t (v := .int _ _) rfl)) ?_
      first
        | exact ⟨2, D0, none, none, 0, 0, rfl, read_ng (deal_eq hns hd5_1 hd6_1 (rdU_4 hw7_1 hw7_3 hw7_5 hw7_7)) hg8_5, .nil, .nil, Nat.zero_le _, Nat.zero_le _, hX⟩
        | exact ⟨2, D0, none, none, 0, 0, rfl, read_nd (congrArg Prod.snd (deal_eq hns hd5_1 hd6_1 (rdU_4 hw7_1 hw7_3 hw7_5 hw7_7))) hdn, .nil, .nil, Nat.zero_le _, Nat.zero_le _, hX⟩
    · skip
      refine xl_pure rfl rfl rfl (pv_not rfl rfl) ?_
      refine xl_pure rfl rfl rfl (pv_move (v := .bool _) rfl rfl) ?_
      refine xl_light rfl rfl rfl (lv_load (v := .agg _) rfl rfl (ld_blk_a md rfl rfl)) ?_
      refine xl_heavy rfl rfl rfl (hv_call (g := 20) rfl rfl (c20 (mkD ns xs5_1 xs6_1 [(n7_1 : Int), (n7_3 : Int), (n7_5 : Int), (n7_7 : Int)]) _ _ _ _ (own_stks ho5_1) (own_stks ho6_1) (Nat.lt_of_le_of_lt hx5_1 (by decide)) (Nat.lt_of_le_of_lt hx6_1 (by decide))) rfl) ?_
      rintro v8_5 H8_5 ⟨e8_5, rfl, hg8_5, hE8_5⟩
      have m0_0 := m0_0.ext hE8_5
      have mr := mr.ext hE8_5
      have m1_2 := m1_2.ext hE8_5
      have m2_1 := m2_1.ext hE8_5
      have md := md.ext hE8_5
      have ho5_1 := ho5_1.ext hE8_5
      have ho6_1 := ho6_1.ext hE8_5
      have hX := hX.trans hE8_5
      rcases hg8_5 with ⟨hg8_5, rfl⟩ | ⟨hg8_5, rfl⟩
      · skip
        refine xl_ndec rfl rfl rfl (pv_neq rfl rfl rfl) (fun h8_6 => ?_) (fun h8_6 => ?_)
        · skip
          refine xl_pure rfl rfl rfl (pv_pick_f (v := .bool _) rfl rfl rfl) ?_
          refine xl_nil ?_
          refine xthen_normal ?_
          refine xc_cond_f rfl ?_
          refine xc_skip ?_
          refine xthen_normal ?_
          refine xc_seq ?_
          refine xc_region ?_
          refine xl_light rfl rfl rfl (lv_load (v := .agg _) rfl rfl (ld_blk_a md rfl rfl)) ?_
          refine xl_store rfl rfl (hv_storeA (vs := [.int _ _, .int _ _, .int _ _, .int _ _, .int _ _, .int _ _, .int _ _, .int _ _, .int _ _, .int _ _, .int _ _, .int _ _, .int _ _, .slice _ _ _, .slice _ _ _, .int _ _, .int _ _, .int _ _, .int _ _]) rfl rfl rfl (m0_0) rfl (by rfl) rfl) ?_
          rintro v10_1 H10_1 ⟨hU10_1, hZ10_1⟩
          have mr := mr.off hU10_1.but (nm0_0_mr.symm)
          have m1_2 := m1_2.off hU10_1.but (nm0_0_1_2.symm)
          have m2_1 := m2_1.off hU10_1.but (nm0_0_2_1.symm)
          have md := md.off hU10_1.but (nm0_0_md.symm)
          have ho5_1 := ho5_1.offU m0_0 hU10_1.but (.inl rfl)
          have ho6_1 := ho6_1.offU m0_0 hU10_1.but (.inl rfl)
          have hX := hX.upd hU10_1.but gb0_0
          have m0_0 := hU10_1.blk
          refine xl_pure rfl rfl rfl (pv_assign (v := .int _ _) rfl rfl) ?_
          refine xl_nil ?_
          refine xthen_normal ?_
          refine xc_ret ?_
          refine fin_ret (resv2 rfl (rv_c (ty := 24) rfl (ld_blk_a m0_0 rfl rfl)) (rv_t (v := .int _ _) rfl)) ?_
          exact ⟨0, (mkD ns xs5_1 xs6_1 [(n7_1 : Int), (n7_3 : Int), (n7_5 : Int), (n7_7 : Int)]), _, _, _, _, rfl, read_ok (deal_eq hns hd5_1 hd6_1 (rdU_4 hw7_1 hw7_3 hw7_5 hw7_7)) hdn hg8_5, own_stks ho5_1, own_stks ho6_1, hx5_1, hx6_1, hX⟩
        · exact absurd (by decide) h8_6
      · skip
        refine xl_ndec rfl rfl rfl (pv_neq rfl rfl rfl) (fun h8_6 => ?_) (fun h8_6 => ?_)
        · exact absurd h8_6 (by decide)
        · skip
          refine xl_pure rfl rfl rfl (pv_pick_f (v := .bool _) rfl rfl rfl) ?_
          refine xl_nil ?_
          refine xthen_normal ?_
          refine xc_cond_t rfl ?_
          refine xc_seq ?_
          refine xc_region ?_
          refine xl_pure rfl rfl rfl (pv_build_s (cs := [.int _ _, .int _ _, .int _ _, .int _ _, .int _ _, .int _ _, .int _ _, .int _ _, .int _ _, .int _ _, .int _ _, .int _ _, .int _ _, .slice _ _ _, .slice _ _ _, .int _ _, .int _ _, .int _ _, .int _ _]) rfl rfl rfl) ?_
          refine xl_store rfl rfl (hv_storeA (vs := [.int _ _, .int _ _, .int _ _, .int _ _, .int _ _, .int _ _, .int _ _, .int _ _, .int _ _, .int _ _, .int _ _, .int _ _, .int _ _, .slice _ _ _, .slice _ _ _, .int _ _, .int _ _, .int _ _, .int _ _]) rfl rfl rfl (m0_0) rfl (by rfl) rfl) ?_
          rintro v9_1 H9_1 ⟨hU9_1, hZ9_1⟩
          have mr := mr.off hU9_1.but (nm0_0_mr.symm)
          have m1_2 := m1_2.off hU9_1.but (nm0_0_1_2.symm)
          have m2_1 := m2_1.off hU9_1.but (nm0_0_2_1.symm)
          have md := md.off hU9_1.but (nm0_0_md.symm)
          have ho5_1 := ho5_1.offU m0_0 hU9_1.but (.inl rfl)
          have ho6_1 := ho6_1.offU m0_0 hU9_1.but (.inl rfl)
          have hX := hX.upd hU9_1.but gb0_0
          have m0_0 := hU9_1.blk
          refine xl_pure rfl rfl rfl (pv_assign (v := .int _ _) rfl rfl) ?_
          refine xl_nil ?_
          refine xthen_normal ?_
          refine xc_ret ?_
          refine xthen_ret ?_
          refine fin_ret (resv2 rfl (rv_c (ty := 24) rfl (ld_blk_a m0_0 rfl rfl)) (rv_t (v := .int _ _) rfl)) ?_
          first
            | exact ⟨2, D0, none, none, 0, 0, rfl, read_ng (deal_eq hns hd5_1 hd6_1 (rdU_4 hw7_1 hw7_3 hw7_5 hw7_7)) hg8_5, .nil, .nil, Nat.zero_le _, Nat.zero_le _, hX⟩
            | exact ⟨2, D0, none, none, 0, 0, rfl, read_nd (congrArg Prod.snd (deal_eq hns hd5_1 hd6_1 (rdU_4 hw7_1 hw7_3 hw7_5 hw7_7))) hdn, .nil, .nil, Nat.zero_le _, Nat.zero_le _, hX⟩
end Go.XG
