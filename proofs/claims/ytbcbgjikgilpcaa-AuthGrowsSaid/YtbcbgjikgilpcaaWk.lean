/-
  Walks of the seat's functions over the logic XG: each function, what it computes. Printed by a program out of wip/walks.py.
-/
import Derived.Test.YtbcbgjikgilpcaaI
import Derived.Test.YtbcbgjikgilpcaaM
import Derived.Test.YtbcbgjikgilpcaaGc
import Derived.Test.YtbcbgjikgilpcaaWa
import Derived.Test.YtbcbgjikgilpcaaWb
import Derived.Test.YtbcbgjikgilpcaaWc
import Derived.Test.YtbcbgjikgilpcaaWd
import Derived.Test.YtbcbgjikgilpcaaWe
import Derived.Test.YtbcbgjikgilpcaaWf
import Derived.Test.YtbcbgjikgilpcaaWg
import Derived.Test.YtbcbgjikgilpcaaWh
import Derived.Test.YtbcbgjikgilpcaaWi
import Derived.Test.YtbcbgjikgilpcaaWj
namespace Go.XG
open Go.Proofs
set_option maxRecDepth 4000
set_option maxHeartbeats 4000000
theorem c9 {O : Outer} {H : Heap}  :
    FnC Try.prog 8 #[] O H (fun v H' => v = .bool true ∧ Ext H H') := by
  refine fn_enter (A := []) Try.func8 rfl rfl ?_
  have hX := Ext.refl H
  refine xc_seq ?_
  refine xc_region ?_
  refine xl_pure rfl rfl rfl (pv_assign (v := .bool _) rfl rfl) ?_
  refine xl_nil ?_
  refine xthen_normal ?_
  refine xc_seq ?_
  refine xc_region ?_
  refine xl_pure rfl rfl rfl (pv_build_s (cs := [.slice _ _ _]) rfl rfl rfl) ?_
  refine xl_heavy rfl rfl rfl (hv_box rfl rfl) ?_
  rintro v1_1 H1_1 ⟨b1_1, rfl, hN1_1⟩
  have gb1_1 := hX.fresh hN1_1
  have hX := hX.trans hN1_1.ext
  have m1_1 := hN1_1.blk
  refine xl_pure rfl rfl rfl (pv_assign (v := .pointer _) rfl rfl) ?_
  refine xl_nil ?_
  refine xthen_normal ?_
  refine xc_seq ?_
  have hg0 : GAt _ b1_1 H.size [] := ⟨none, 0, [], m1_1, Own.nil _ _ _ _, Mems.nil⟩
  have ok2 : GOk [[[2, 1]]] := by have h := gok_fou (c := 2) gok_nil; rw [show fouX [] 2 = [[[2, 1]]] by decide] at h; exact h
  have ok3 : GOk [[[1, 4], [2, 1]]] := by have h := gok_enr (id := 101) (c := 1) (r := 4) ok2; rw [show enrX [[[2, 1]]] 101 1 4 = [[[1, 4], [2, 1]]] by decide] at h; exact h
  refine xc_region ?_
  refine xl_pure rfl rfl rfl (pv_move (v := .pointer _) rfl rfl) ?_
  refine xl_heavy rfl rfl rfl (hv_call (g := 21) rfl rfl (gFoundG hg0 gok_nil hX.size 2) rfl) ?_
  rintro v2_1 H2_1 ⟨hv2_1, hg2_1, hK2_1⟩
  rw [show fouX [] 2 = [[[2, 1]]] by decide] at hg2_1
  rw [show fouN [] 2 = 101 by decide, show fouE [] 2 = 0 by decide] at hv2_1
  subst hv2_1
  have hX := hX.keep hK2_1 (gf_ge gb1_1.le)
  refine xl_pure rfl rfl rfl (pv_move (v := .tuple _) rfl rfl) ?_
  refine xl_pure rfl rfl rfl (pv_extract (v := .int _ _) rfl rfl rfl) ?_
  refine xl_pure rfl rfl rfl (pv_extract (v := .int _ _) rfl rfl rfl) ?_
  refine xl_pure rfl rfl rfl (pv_assign (v := .int _ _) rfl rfl) ?_
  refine xl_pure rfl rfl rfl (pv_assign (v := .int _ _) rfl rfl) ?_
  refine xl_nil ?_
  refine xthen_normal ?_
  refine xc_seq ?_
  refine xc_region ?_
  refine xl_pure rfl rfl rfl (pv_move (v := .pointer _) rfl rfl) ?_
  refine xl_pure rfl rfl rfl (pv_move (v := .int _ _) rfl rfl) ?_
  refine xl_heavy rfl rfl rfl (hv_call (g := 22) rfl rfl (gEnrolG hg2_1 ok2 101 1 4) rfl) ?_
  rintro v3_2 H3_2 ⟨hv3_2, hg3_2, hK3_2⟩
  rw [show enrX [[[2, 1]]] 101 1 4 = [[[1, 4], [2, 1]]] by decide] at hg3_2
  rw [show enrE [[[2, 1]]] 101 1 4 = 0 by decide] at hv3_2
  subst hv3_2
  have hX := hX.keep hK3_2 (gf_ge gb1_1.le)
  have hg := hg3_2
  refine xl_pure rfl rfl rfl (pv_assign (v := .int _ _) rfl rfl) ?_
  refine xl_nil ?_
  refine xthen_normal ?_
  refine xc_seq ?_
  refine xc_region ?_
  refine xl_heavy rfl rfl rfl (hv_call (g := 6) rfl rfl (gNeeds 9 2) rfl) ?_
  rintro v4_0 H4_0 ⟨hv4_0, rfl⟩
  rw [show neeN 9 2 = 36 by decide, show neeE 9 2 = 0 by decide] at hv4_0
  subst hv4_0
  refine xl_pure rfl rfl rfl (pv_move (v := .tuple _) rfl rfl) ?_
  refine xl_pure rfl rfl rfl (pv_extract (v := .int _ _) rfl rfl rfl) ?_
  refine xl_pure rfl rfl rfl (pv_extract (v := .int _ _) rfl rfl rfl) ?_
  refine xl_pure rfl rfl rfl (pv_assign (v := .int _ _) rfl rfl) ?_
  refine xl_pure rfl rfl rfl (pv_assign (v := .int _ _) rfl rfl) ?_
  refine xl_nil ?_
  refine xthen_normal ?_
  refine xc_seq ?_
  refine xc_region ?_
  refine xl_pure rfl rfl rfl (pv_move (v := .int _ _) rfl rfl) ?_
  refine xl_dec rfl rfl rfl (pv_eql rfl rfl rfl) (fun h5_1 => ?_) (fun h5_1 => ?_)
  · skip
    refine xl_pure rfl rfl rfl (pv_move (v := .bool _) rfl rfl) ?_
    refine xl_pure rfl rfl rfl (pv_move (v := .int _ _) rfl rfl) ?_
    refine xl_dec rfl rfl rfl (pv_eql rfl rfl rfl) (fun h5_4 => ?_) (fun h5_4 => ?_)
    · skip
      refine xl_pure rfl rfl rfl (pv_pick_t (v := .bool _) rfl rfl rfl) ?_
      refine xl_pure rfl rfl rfl (pv_move (v := .bool _) rfl rfl) ?_
      refine xl_pure rfl rfl rfl (pv_move (v := .pointer _) rfl rfl) ?_
      refine xl_heavy rfl rfl rfl (hv_call (g := 12) rfl rfl (gMay hg ok3 3 1 1 255) rfl) ?_
      rintro v5_8 H5_8 ⟨hv5_8, hE5_8⟩
      have hX := hX.trans hE5_8
      rw [show mayE [[[1, 4], [2, 1]]] 3 1 1 255 = 0 by decide] at hv5_8
      subst hv5_8
      have hg := hg.ext hE5_8
      refine xl_dec rfl rfl rfl (pv_eql rfl rfl rfl) (fun h5_9 => ?_) (fun h5_9 => ?_)
      · skip
        refine xl_pure rfl rfl rfl (pv_pick_t (v := .bool _) rfl rfl rfl) ?_
        refine xl_pure rfl rfl rfl (pv_move (v := .bool _) rfl rfl) ?_
        refine xl_pure rfl rfl rfl (pv_move (v := .pointer _) rfl rfl) ?_
        refine xl_heavy rfl rfl rfl (hv_call (g := 12) rfl rfl (gMay hg ok3 3 1 2 0) rfl) ?_
        rintro v5_13 H5_13 ⟨hv5_13, hE5_13⟩
        have hX := hX.trans hE5_13
        rw [show mayE [[[1, 4], [2, 1]]] 3 1 2 0 = 8 by decide] at hv5_13
        subst hv5_13
        have hg := hg.ext hE5_13
        refine xl_dec rfl rfl rfl (pv_eql rfl rfl rfl) (fun h5_14 => ?_) (fun h5_14 => ?_)
        · skip
          refine xl_pure rfl rfl rfl (pv_pick_t (v := .bool _) rfl rfl rfl) ?_
          refine xl_pure rfl rfl rfl (pv_move (v := .bool _) rfl rfl) ?_
          refine xl_pure rfl rfl rfl (pv_move (v := .pointer _) rfl rfl) ?_
          refine xl_heavy rfl rfl rfl (hv_call (g := 12) rfl rfl (gMay hg ok3 3 1 101 4) rfl) ?_
          rintro v5_18 H5_18 ⟨hv5_18, hE5_18⟩
          have hX := hX.trans hE5_18
          rw [show mayE [[[1, 4], [2, 1]]] 3 1 101 4 = 0 by decide] at hv5_18
          subst hv5_18
          have hg := hg.ext hE5_18
          refine xl_dec rfl rfl rfl (pv_eql rfl rfl rfl) (fun h5_19 => ?_) (fun h5_19 => ?_)
          · skip
            refine xl_pure rfl rfl rfl (pv_pick_t (v := .bool _) rfl rfl rfl) ?_
            refine xl_pure rfl rfl rfl (pv_move (v := .bool _) rfl rfl) ?_
            refine xl_pure rfl rfl rfl (pv_move (v := .pointer _) rfl rfl) ?_
            refine xl_heavy rfl rfl rfl (hv_call (g := 12) rfl rfl (gMay hg ok3 3 1 101 2) rfl) ?_
            rintro v5_23 H5_23 ⟨hv5_23, hE5_23⟩
            have hX := hX.trans hE5_23
            rw [show mayE [[[1, 4], [2, 1]]] 3 1 101 2 = 8 by decide] at hv5_23
            subst hv5_23
            have hg := hg.ext hE5_23
            refine xl_dec rfl rfl rfl (pv_eql rfl rfl rfl) (fun h5_24 => ?_) (fun h5_24 => ?_)
            · skip
              refine xl_pure rfl rfl rfl (pv_pick_t (v := .bool _) rfl rfl rfl) ?_
              refine xl_pure rfl rfl rfl (pv_move (v := .bool _) rfl rfl) ?_
              refine xl_pure rfl rfl rfl (pv_move (v := .pointer _) rfl rfl) ?_
              refine xl_heavy rfl rfl rfl (hv_call (g := 12) rfl rfl (gMay hg ok3 3 3 101 0) rfl) ?_
              rintro v5_28 H5_28 ⟨hv5_28, hE5_28⟩
              have hX := hX.trans hE5_28
              rw [show mayE [[[1, 4], [2, 1]]] 3 3 101 0 = 8 by decide] at hv5_28
              subst hv5_28
              have hg := hg.ext hE5_28
              refine xl_dec rfl rfl rfl (pv_eql rfl rfl rfl) (fun h5_29 => ?_) (fun h5_29 => ?_)
              · skip
                refine xl_pure rfl rfl rfl (pv_pick_t (v := .bool _) rfl rfl rfl) ?_
                refine xl_pure rfl rfl rfl (pv_move (v := .bool _) rfl rfl) ?_
                refine xl_pure rfl rfl rfl (pv_move (v := .pointer _) rfl rfl) ?_
                refine xl_heavy rfl rfl rfl (hv_call (g := 12) rfl rfl (gMay hg ok3 3 4 101 0) rfl) ?_
                rintro v5_33 H5_33 ⟨hv5_33, hE5_33⟩
                have hX := hX.trans hE5_33
                rw [show mayE [[[1, 4], [2, 1]]] 3 4 101 0 = 3 by decide] at hv5_33
                subst hv5_33
                have hg := hg.ext hE5_33
                refine xl_dec rfl rfl rfl (pv_eql rfl rfl rfl) (fun h5_34 => ?_) (fun h5_34 => ?_)
                · skip
                  refine xl_pure rfl rfl rfl (pv_pick_t (v := .bool _) rfl rfl rfl) ?_
                  refine xl_pure rfl rfl rfl (pv_move (v := .bool _) rfl rfl) ?_
                  refine xl_pure rfl rfl rfl (pv_move (v := .int _ _) rfl rfl) ?_
                  refine xl_dec rfl rfl rfl (pv_eql rfl rfl rfl) (fun h5_38 => ?_) (fun h5_38 => ?_)
                  · skip
                    refine xl_pure rfl rfl rfl (pv_pick_t (v := .bool _) rfl rfl rfl) ?_
                    refine xl_pure rfl rfl rfl (pv_move (v := .bool _) rfl rfl) ?_
                    refine xl_pure rfl rfl rfl (pv_move (v := .int _ _) rfl rfl) ?_
                    refine xl_dec rfl rfl rfl (pv_eql rfl rfl rfl) (fun h5_42 => ?_) (fun h5_42 => ?_)
                    · skip
                      refine xl_pure rfl rfl rfl (pv_pick_t (v := .bool _) rfl rfl rfl) ?_
                      refine xl_pure rfl rfl rfl (pv_move (v := .bool _) rfl rfl) ?_
                      refine xl_pure rfl rfl rfl (pv_move (v := .pointer _) rfl rfl) ?_
                      refine xl_heavy rfl rfl rfl (hv_call (g := 19) rfl rfl (gWho hg ok3 3 101 4) rfl) ?_
                      rintro v5_46 H5_46 ⟨a5_46, c5_46, hv5_46, hI5_46, hE5_46⟩
                      have hX := hX.trans hE5_46
                      rw [show whoI [[[1, 4], [2, 1]]] 3 101 4 16 = [1, 2] by decide] at hv5_46 hI5_46
                      subst hv5_46
                      refine xl_heavy rfl rfl rfl (hv_buildSlice (cs := [.int _ _, .int _ _]) rfl rfl rfl rfl rfl) ?_
                      rintro v5_47 H5_47 ⟨b5_47, rfl, hN5_47⟩
                      have gb5_47 := hX.fresh hN5_47
                      have hX := hX.trans hN5_47.ext
                      have m5_47 := hN5_47.blk
                      refine xl_heavy rfl rfl rfl (hv_call (g := 18) rfl rfl (iSame (l := [1, 2]) (m := [1, 2]) (hI5_46.ext hN5_47.ext) (.inr ⟨_, 0, rfl, m5_47.row⟩) (by decide)) rfl) ?_
                      rintro v5_48 H5_48 ⟨r5_48, rfl, hb5_48, rfl⟩
                      obtain rfl : r5_48 = true := hb5_48.2 rfl
                      refine xl_pure rfl rfl rfl (pv_pick_t (v := .bool _) rfl rfl rfl) ?_
                      refine xl_pure rfl rfl rfl (pv_move (v := .bool _) rfl rfl) ?_
                      refine xl_heavy rfl rfl rfl (hv_call (g := 16) rfl rfl (gDiv 101 4) rfl) ?_
                      rintro v5_51 H5_51 ⟨rfl, rfl⟩
                      refine xl_pure rfl rfl rfl (pv_pick_t (v := .bool _) rfl rfl rfl) ?_
                      refine xl_pure rfl rfl rfl (pv_move (v := .bool _) rfl rfl) ?_
                      refine xl_heavy rfl rfl rfl (hv_call (g := 16) rfl rfl (gDiv 1 4) rfl) ?_
                      rintro v5_54 H5_54 ⟨rfl, rfl⟩
                      refine xl_pure rfl rfl rfl (pv_not rfl rfl) ?_
                      refine xl_pure rfl rfl rfl (pv_pick_t (v := .bool _) rfl rfl rfl) ?_
                      refine xl_pure rfl rfl rfl (pv_assign (v := .bool _) rfl rfl) ?_
                      refine xl_nil ?_
                      refine xthen_normal ?_
                      refine xc_ret ?_
                      refine fin_ret (res1 (v := .bool _) rfl rfl) ?_
                      exact ⟨rfl, hX⟩
                    · exact absurd rfl h5_42
                  · exact absurd rfl h5_38
                · exact absurd rfl h5_34
              · exact absurd rfl h5_29
            · exact absurd rfl h5_24
          · exact absurd rfl h5_19
        · exact absurd rfl h5_14
      · exact absurd rfl h5_9
    · exact absurd rfl h5_4
  · exact absurd rfl h5_1
end Go.XG
