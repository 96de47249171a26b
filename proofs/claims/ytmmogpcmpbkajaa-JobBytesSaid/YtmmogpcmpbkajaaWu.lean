/-
  Walks of the seat's functions over the logic XG: each function, what it computes. Printed by a program out of wip/walks.py.
-/
import Derived.Test.YtmmogpcmpbkajaaI
import Derived.Test.YtmmogpcmpbkajaaP
import Derived.Test.YtmmogpcmpbkajaaL
import Derived.Test.YtmmogpcmpbkajaaWa
import Derived.Test.YtmmogpcmpbkajaaWb
import Derived.Test.YtmmogpcmpbkajaaWc
import Derived.Test.YtmmogpcmpbkajaaWd
import Derived.Test.YtmmogpcmpbkajaaWe
import Derived.Test.YtmmogpcmpbkajaaWf
import Derived.Test.YtmmogpcmpbkajaaWg
import Derived.Test.YtmmogpcmpbkajaaWh
import Derived.Test.YtmmogpcmpbkajaaLn
import Derived.Test.YtmmogpcmpbkajaaNa
import Derived.Test.YtmmogpcmpbkajaaNb
import Derived.Test.YtmmogpcmpbkajaaNc
import Derived.Test.YtmmogpcmpbkajaaNd
import Derived.Test.YtmmogpcmpbkajaaNf
import Derived.Test.YtmmogpcmpbkajaaNg
import Derived.Test.YtmmogpcmpbkajaaXk
import Derived.Test.YtmmogpcmpbkajaaB6
import Derived.Test.YtmmogpcmpbkajaaWr
import Derived.Test.YtmmogpcmpbkajaaWs
import Derived.Test.YtmmogpcmpbkajaaWt
namespace Go.XG
open Go.Proofs Go.Pen
set_option maxRecDepth 4000
set_option maxHeartbeats 4000000
theorem c19 {O : Outer} {H : Heap} (s : List UInt8) :
    FnC Try.prog 19 #[.string (bs s)] O H (fun v H' => ∃ r x a' c', v = .tuple #[jv x a' c', .int .i64 r] ∧ (r, x) = readS s ∧ Stks H' a' x.needs ∧ x.needs.length ≤ 8 ∧ Ext H H') := by
  refine fn_enter (A := [.string (bs s)]) Try.func19 rfl rfl ?_
  have hX := Ext.refl H
  refine xc_seq ?_
  refine xc_region ?_
  refine xl_heavy rfl rfl rfl (hv_alloc rfl rfl) ?_
  rintro v0_0 H0_0 ⟨b0_0, rfl, hN0_0⟩
  have gb0_0 := hX.fresh hN0_0
  have hX := hX.trans hN0_0.ext
  have m0_0 := hN0_0.blk
  refine xl_pure rfl rfl rfl (pv_assign (v := .int _ _) rfl rfl) ?_
  refine xl_nil ?_
  refine xthen_normal ?_
  refine xc_seq ?_
  refine xc_region ?_
  refine xl_pure rfl rfl rfl (pv_move (v := .string (bs _)) rfl rfl) ?_
  refine xl_heavy rfl rfl rfl (hv_call (g := 38) rfl rfl (p14 s) rfl) ?_
  rintro v1_1 H1_1 ⟨rd, rfl, hN1_1⟩
  have grd := hX.fresh hN1_1
  have nm0_0_mr := m0_0.apart hN1_1
  have mr := hN1_1.blk
  have m0_0 := m0_0.ext hN1_1.ext
  have hX := hX.trans hN1_1.ext
  refine xl_heavy rfl rfl rfl (hv_alloc rfl rfl) ?_
  rintro v1_2 H1_2 ⟨b1_2, rfl, hN1_2⟩
  have gb1_2 := hX.fresh hN1_2
  have nm0_0_1_2 := m0_0.apart hN1_2
  have nmr_1_2 := mr.apart hN1_2
  have m0_0 := m0_0.ext hN1_2.ext
  have mr := mr.ext hN1_2.ext
  have hX := hX.trans hN1_2.ext
  have m1_2 := hN1_2.blk
  refine xl_store rfl rfl (hv_store (vs := [.pointer _]) rfl rfl rfl (m1_2) rfl (Nat.le_of_ble_eq_true rfl) rfl) ?_
  rintro v1_3 H1_3 ⟨hU1_3, hZ1_3⟩
  have m0_0 := m0_0.off hU1_3.but (nm0_0_1_2)
  have mr := mr.off hU1_3.but (nmr_1_2)
  have hX := hX.upd hU1_3.but gb1_2
  have m1_2 := hU1_3.blk
  refine xl_nil ?_
  refine xthen_normal ?_
  refine xc_seq ?_
  refine xc_region ?_
  refine xl_pure rfl rfl rfl (pv_makeFunc (a := []) (b := [.pointer _]) rfl rfl rfl) ?_
  refine xl_pure rfl rfl rfl (pv_assign rfl rfl) ?_
  refine xl_nil ?_
  refine xthen_normal ?_
  refine xc_cut (τ := List Int × List UInt8 × Bool × Nat) (fun t => [(2, .pointer (some ⟨b0_0, 0, none⟩)), (4, .pointer (some ⟨b1_2, 0, none⟩)), (5, .func (.func 39) #[] #[.pointer (some ⟨b1_2, 0, none⟩)]), (6, .pointer (some ⟨t.2.2.2, 0, none⟩))]) (fun t H' => (rdU 11 (s, false) = (t.1, (t.2.1, t.2.2.1))) ∧ (Blk H' b0_0 (jcs J0 none 0) 26) ∧ (Blk H' rd [.string (bs t.2.1), .bool t.2.2.1, .bool true] 71) ∧ (Blk H' b1_2 [.pointer (some ⟨rd, 0, none⟩)] 56) ∧ (Blk H' t.2.2.2 (jcs (mkJ t.1 [] []) none 0) 26) ∧ (Fresh H t.2.2.2) ∧ (Apart b0_0 t.2.2.2) ∧ (Apart rd t.2.2.2) ∧ (Apart b1_2 t.2.2.2) ∧ (Ext H H')) ?_ ?_
  · skip
    refine xc_region ?_
    refine xl_pure rfl rfl rfl (pv_move rfl rfl) ?_
    refine xl_heavy rfl rfl rfl (hv_call (g := 39) rfl rfl (c39 mr m1_2 nmr_1_2.symm) rfl) ?_
    rintro v3_1 H3_1 ⟨n3_1, l3_1, bad3_1, hw3_1, hn3_1, rfl, hU3_1⟩
    have m0_0 := m0_0.off hU3_1.but (nm0_0_mr)
    have m1_2 := m1_2.off hU3_1.but (nmr_1_2.symm)
    have hX := hX.upd hU3_1.but grd
    have mr := hU3_1.blk
    refine xl_pure rfl rfl rfl (pv_move rfl rfl) ?_
    refine xl_heavy rfl rfl rfl (hv_call (g := 39) rfl rfl (c39 mr m1_2 nmr_1_2.symm) rfl) ?_
    rintro v3_3 H3_3 ⟨n3_3, l3_3, bad3_3, hw3_3, hn3_3, rfl, hU3_3⟩
    have m0_0 := m0_0.off hU3_3.but (nm0_0_mr)
    have m1_2 := m1_2.off hU3_3.but (nmr_1_2.symm)
    have hX := hX.upd hU3_3.but grd
    have mr := hU3_3.blk
    refine xl_pure rfl rfl rfl (pv_move rfl rfl) ?_
    refine xl_heavy rfl rfl rfl (hv_call (g := 39) rfl rfl (c39 mr m1_2 nmr_1_2.symm) rfl) ?_
    rintro v3_5 H3_5 ⟨n3_5, l3_5, bad3_5, hw3_5, hn3_5, rfl, hU3_5⟩
    have m0_0 := m0_0.off hU3_5.but (nm0_0_mr)
    have m1_2 := m1_2.off hU3_5.but (nmr_1_2.symm)
    have hX := hX.upd hU3_5.but grd
    have mr := hU3_5.blk
    refine xl_pure rfl rfl rfl (pv_move rfl rfl) ?_
    refine xl_heavy rfl rfl rfl (hv_call (g := 39) rfl rfl (c39 mr m1_2 nmr_1_2.symm) rfl) ?_
    rintro v3_7 H3_7 ⟨n3_7, l3_7, bad3_7, hw3_7, hn3_7, rfl, hU3_7⟩
    have m0_0 := m0_0.off hU3_7.but (nm0_0_mr)
    have m1_2 := m1_2.off hU3_7.but (nmr_1_2.symm)
    have hX := hX.upd hU3_7.but grd
    have mr := hU3_7.blk
    refine xl_pure rfl rfl rfl (pv_move rfl rfl) ?_
    refine xl_heavy rfl rfl rfl (hv_call (g := 39) rfl rfl (c39 mr m1_2 nmr_1_2.symm) rfl) ?_
    rintro v3_9 H3_9 ⟨n3_9, l3_9, bad3_9, hw3_9, hn3_9, rfl, hU3_9⟩
    have m0_0 := m0_0.off hU3_9.but (nm0_0_mr)
    have m1_2 := m1_2.off hU3_9.but (nmr_1_2.symm)
    have hX := hX.upd hU3_9.but grd
    have mr := hU3_9.blk
    refine xl_pure rfl rfl rfl (pv_move rfl rfl) ?_
    refine xl_heavy rfl rfl rfl (hv_call (g := 39) rfl rfl (c39 mr m1_2 nmr_1_2.symm) rfl) ?_
    rintro v3_11 H3_11 ⟨n3_11, l3_11, bad3_11, hw3_11, hn3_11, rfl, hU3_11⟩
    have m0_0 := m0_0.off hU3_11.but (nm0_0_mr)
    have m1_2 := m1_2.off hU3_11.but (nmr_1_2.symm)
    have hX := hX.upd hU3_11.but grd
    have mr := hU3_11.blk
    refine xl_pure rfl rfl rfl (pv_move rfl rfl) ?_
    refine xl_heavy rfl rfl rfl (hv_call (g := 39) rfl rfl (c39 mr m1_2 nmr_1_2.symm) rfl) ?_
    rintro v3_13 H3_13 ⟨n3_13, l3_13, bad3_13, hw3_13, hn3_13, rfl, hU3_13⟩
    have m0_0 := m0_0.off hU3_13.but (nm0_0_mr)
    have m1_2 := m1_2.off hU3_13.but (nmr_1_2.symm)
    have hX := hX.upd hU3_13.but grd
    have mr := hU3_13.blk
    refine xl_pure rfl rfl rfl (pv_move rfl rfl) ?_
    refine xl_heavy rfl rfl rfl (hv_call (g := 39) rfl rfl (c39 mr m1_2 nmr_1_2.symm) rfl) ?_
    rintro v3_15 H3_15 ⟨n3_15, l3_15, bad3_15, hw3_15, hn3_15, rfl, hU3_15⟩
    have m0_0 := m0_0.off hU3_15.but (nm0_0_mr)
    have m1_2 := m1_2.off hU3_15.but (nmr_1_2.symm)
    have hX := hX.upd hU3_15.but grd
    have mr := hU3_15.blk
    refine xl_pure rfl rfl rfl (pv_move rfl rfl) ?_
    refine xl_heavy rfl rfl rfl (hv_call (g := 39) rfl rfl (c39 mr m1_2 nmr_1_2.symm) rfl) ?_
    rintro v3_17 H3_17 ⟨n3_17, l3_17, bad3_17, hw3_17, hn3_17, rfl, hU3_17⟩
    have m0_0 := m0_0.off hU3_17.but (nm0_0_mr)
    have m1_2 := m1_2.off hU3_17.but (nmr_1_2.symm)
    have hX := hX.upd hU3_17.but grd
    have mr := hU3_17.blk
    refine xl_pure rfl rfl rfl (pv_move rfl rfl) ?_
    refine xl_heavy rfl rfl rfl (hv_call (g := 39) rfl rfl (c39 mr m1_2 nmr_1_2.symm) rfl) ?_
    rintro v3_19 H3_19 ⟨n3_19, l3_19, bad3_19, hw3_19, hn3_19, rfl, hU3_19⟩
    have m0_0 := m0_0.off hU3_19.but (nm0_0_mr)
    have m1_2 := m1_2.off hU3_19.but (nmr_1_2.symm)
    have hX := hX.upd hU3_19.but grd
    have mr := hU3_19.blk
    refine xl_pure rfl rfl rfl (pv_move rfl rfl) ?_
    refine xl_heavy rfl rfl rfl (hv_call (g := 39) rfl rfl (c39 mr m1_2 nmr_1_2.symm) rfl) ?_
    rintro v3_21 H3_21 ⟨n3_21, l3_21, bad3_21, hw3_21, hn3_21, rfl, hU3_21⟩
    have m0_0 := m0_0.off hU3_21.but (nm0_0_mr)
    have m1_2 := m1_2.off hU3_21.but (nmr_1_2.symm)
    have hX := hX.upd hU3_21.but grd
    have mr := hU3_21.blk
    refine xl_pure rfl rfl rfl (pv_build_s (cs := jcs (mkJ [(n3_1 : Int), (n3_3 : Int), (n3_5 : Int), (n3_7 : Int), (n3_9 : Int), (n3_11 : Int), (n3_13 : Int), (n3_15 : Int), (n3_17 : Int), (n3_19 : Int), (n3_21 : Int)] [] []) none 0) rfl rfl (by kernel_rfl)) ?_
    refine xl_heavy rfl rfl rfl (hv_alloc rfl rfl) ?_
    rintro v3_23 H3_23 ⟨b3_23, rfl, hN3_23⟩
    have gb3_23 := hX.fresh hN3_23
    have nm0_0_3_23 := m0_0.apart hN3_23
    have nmr_3_23 := mr.apart hN3_23
    have nm1_2_3_23 := m1_2.apart hN3_23
    have m0_0 := m0_0.ext hN3_23.ext
    have mr := mr.ext hN3_23.ext
    have m1_2 := m1_2.ext hN3_23.ext
    have hX := hX.trans hN3_23.ext
    have m3_23 := hN3_23.blk
    refine xl_store rfl rfl (hv_storeA (vs := jcs (mkJ [(n3_1 : Int), (n3_3 : Int), (n3_5 : Int), (n3_7 : Int), (n3_9 : Int), (n3_11 : Int), (n3_13 : Int), (n3_15 : Int), (n3_17 : Int), (n3_19 : Int), (n3_21 : Int)] [] []) none 0) rfl rfl rfl (m3_23) rfl (by rfl) rfl) ?_
    rintro v3_24 H3_24 ⟨hU3_24, hZ3_24⟩
    have m0_0 := m0_0.off hU3_24.but (nm0_0_3_23)
    have mr := mr.off hU3_24.but (nmr_3_23)
    have m1_2 := m1_2.off hU3_24.but (nm1_2_3_23)
    have hX := hX.upd hU3_24.but gb3_23
    have m3_23 := hU3_24.blk
    refine xl_nil ?_
    refine xthen_normal ?_
    exact ⟨([(n3_1 : Int), (n3_3 : Int), (n3_5 : Int), (n3_7 : Int), (n3_9 : Int), (n3_11 : Int), (n3_13 : Int), (n3_15 : Int), (n3_17 : Int), (n3_19 : Int), (n3_21 : Int)], _, _, _), ⟨rfl, rfl, rfl, rfl, trivial⟩, ⟨rdU_11 hw3_1 hw3_3 hw3_5 hw3_7 hw3_9 hw3_11 hw3_13 hw3_15 hw3_17 hw3_19 hw3_21, m0_0, mr, m1_2, m3_23, gb3_23, nm0_0_3_23, nmr_3_23, nm1_2_3_23, hX⟩⟩
  · intro σ
    clear hX m0_0 mr m1_2
    rintro ⟨ns, l0, bad0, bd⟩ Hm3 ⟨hns, m0_0, mr, m1_2, md, gbd, nm0_0_md, nmr_md, nm1_2_md, hX⟩
    replace hns : rdU 11 (s, false) = (ns, (l0, bad0)) := hns
    replace m0_0 : Blk Hm3 b0_0 (jcs J0 none 0) 26 := m0_0
    replace mr : Blk Hm3 rd [.string (bs l0), .bool bad0, .bool true] 71 := mr
    replace m1_2 : Blk Hm3 b1_2 [.pointer (some ⟨rd, 0, none⟩)] 56 := m1_2
    replace md : Blk Hm3 bd (jcs (mkJ ns [] []) none 0) 26 := md
    replace gbd : Fresh H bd := gbd
    replace nm0_0_md : Apart b0_0 bd := nm0_0_md
    replace nmr_md : Apart rd bd := nmr_md
    replace nm1_2_md : Apart b1_2 bd := nm1_2_md
    replace hX : Ext H Hm3 := hX
    show XC _ _ _ (upds σ [(2, .pointer (some ⟨b0_0, 0, none⟩)), (4, .pointer (some ⟨b1_2, 0, none⟩)), (5, .func (.func 39) #[] #[.pointer (some ⟨b1_2, 0, none⟩)]), (6, .pointer (some ⟨bd, 0, none⟩))]) _
    refine xc_seq ?_
    refine xc_seq ?_
    refine xc_region ?_
    refine xl_light rfl rfl rfl (lv_load (v := .pointer _) rfl rfl (ld_blk m1_2 rfl)) ?_
    refine xl_heavy rfl rfl rfl (hv_call (g := 40) rfl rfl (p15 mr (8)) rfl) ?_
    rintro v4_1 H4_1 ⟨n4_1, l4_1, bad4_1, hw4_1, hn4_1, rfl, hU4_1⟩
    have m0_0 := m0_0.off hU4_1.but (nm0_0_mr)
    have m1_2 := m1_2.off hU4_1.but (nmr_1_2.symm)
    have md := md.off hU4_1.but (nmr_md.symm)
    have hX := hX.upd hU4_1.but grd
    have mr := hU4_1.blk
    refine xl_pure rfl rfl rfl (pv_move (v := .int _ _) rfl rfl) ?_
    refine xl_nil ?_
    refine xthen_normal ?_
    refine xc_block ?_
    refine xc_loop (τ := List Stack × List UInt8 × Bool × Nat × Option Addr × Nat) (fun t => [(2, .pointer (some ⟨b0_0, 0, none⟩)), (4, .pointer (some ⟨b1_2, 0, none⟩)), (5, .func (.func 39) #[] #[.pointer (some ⟨b1_2, 0, none⟩)]), (6, .pointer (some ⟨bd, 0, none⟩)), (34, .int .i64 (n4_1 : Nat)), (35, .int .i64 (t.2.2.2.1 : Nat))]) (fun t H' => (t.2.2.2.1 ≤ n4_1) ∧ (rdP t.2.2.2.1 (l4_1, bad4_1) = (t.1, (t.2.1, t.2.2.1))) ∧ (t.1.length = t.2.2.2.1) ∧ (Blk H' b0_0 (jcs J0 none 0) 26) ∧ (Blk H' rd [.string (bs t.2.1), .bool t.2.2.1, .bool true] 71) ∧ (Blk H' b1_2 [.pointer (some ⟨rd, 0, none⟩)] 56) ∧ (Blk H' bd (jcs (mkJ ns t.1 []) t.2.2.2.2.1 t.2.2.2.2.2) 26) ∧ (Own H' H.size 53 2 (.slice t.2.2.2.2.1 (List.length t.1) t.2.2.2.2.2) t.1.length (fl t.1)) ∧ (Ext H H')) (fun t H' => n4_1 - t.2.2.2.1) ([], l4_1, bad4_1, 0, none, 0) ?_ ?_ ?_
    · exact ⟨rfl, rfl, rfl, rfl, rfl, rfl, trivial⟩
    · skip
      exact ⟨Nat.zero_le _, rfl, rfl, m0_0, mr, m1_2, md, Own.nil .., hX⟩
    · intro σ
      clear hX m0_0 mr m1_2 md
      rintro ⟨xs, l9, bad9, k, va, vc⟩ Hl5 ⟨hk, hrd, hxl, m0_0, mr, m1_2, md, ho, hX⟩
      replace hk : k ≤ n4_1 := hk
      replace hrd : rdP k (l4_1, bad4_1) = (xs, (l9, bad9)) := hrd
      replace hxl : xs.length = k := hxl
      replace m0_0 : Blk Hl5 b0_0 (jcs J0 none 0) 26 := m0_0
      replace mr : Blk Hl5 rd [.string (bs l9), .bool bad9, .bool true] 71 := mr
      replace m1_2 : Blk Hl5 b1_2 [.pointer (some ⟨rd, 0, none⟩)] 56 := m1_2
      replace md : Blk Hl5 bd (jcs (mkJ ns xs []) va vc) 26 := md
      replace ho : Own Hl5 H.size 53 2 (.slice va (List.length xs) vc) xs.length (fl xs) := ho
      replace hX : Ext H Hl5 := hX
      show XC _ _ _ (upds σ [(2, .pointer (some ⟨b0_0, 0, none⟩)), (4, .pointer (some ⟨b1_2, 0, none⟩)), (5, .func (.func 39) #[] #[.pointer (some ⟨b1_2, 0, none⟩)]), (6, .pointer (some ⟨bd, 0, none⟩)), (34, .int .i64 (n4_1 : Nat)), (35, .int .i64 (k : Nat))]) _
      refine xc_seq ?_
      have hn8 : (n4_1 : Int) ≤ 8 := uintS_le (by decide) hw4_1
      refine xc_region ?_
      refine xl_dec rfl rfl rfl (pv_lss rfl rfl rfl) (fun h5_0 => ?_) (fun h5_0 => ?_)
      · skip
        refine xl_nil ?_
        refine xthen_normal ?_
        refine xc_seq ?_
        refine xc_cond_t rfl ?_
        refine xc_skip ?_
        refine xthen_normal ?_
        refine xc_seq ?_
        refine xc_block ?_
        refine xp_start rfl (by repeat (first | with_reducible exact np_fin | with_reducible refine np_then ?_ | with_reducible refine np_block ?_)) (by kernel_rfl) ?_
        refine xp_pure (i := 0) rfl (by kernel_rfl) (by kernel_rfl) rfl rfl rfl (pv_fieldAddr rfl rfl) ?_
        refine xp_light (i := 1) rfl (by kernel_rfl) (by kernel_rfl) rfl rfl rfl (lv_load (v := .slice _ _ _) rfl rfl (ld_blk md rfl)) ?_
        refine xp_pure (i := 2) rfl (by kernel_rfl) (by kernel_rfl) rfl rfl rfl (pv_move rfl rfl) ?_
        refine xp_pure (i := 4) rfl (by kernel_rfl) (by kernel_rfl) rfl rfl rfl (pv_move rfl rfl) ?_
        refine xp_heavy (i := 3) (by kernel_rfl) ?_
        refine xph_val rfl rfl rfl rfl (hv_call (g := 39) rfl rfl (c39 mr m1_2 nmr_1_2.symm) rfl) (pk (by kernel_rfl) pn) ?_
        rintro v6_3 H6_3 ⟨n6_3, l6_3, bad6_3, hw6_3, hn6_3, rfl, hU6_3⟩
        have m0_0 := m0_0.off hU6_3.but (nm0_0_mr)
        have m1_2 := m1_2.off hU6_3.but (nmr_1_2.symm)
        have md := md.off hU6_3.but (nmr_md.symm)
        have ho := ho.offU mr hU6_3.but (.inl rfl)
        have hX := hX.upd hU6_3.but grd
        have mr := hU6_3.blk
        refine ⟨(okc (lv_load (v := .slice _ _ _) rfl rfl (ld_blk md rfl)) okn), ?_⟩
        refine xp_heavy (i := 5) (by kernel_rfl) ?_
        refine xph_val rfl rfl rfl rfl (hv_call (g := 39) rfl rfl (c39 mr m1_2 nmr_1_2.symm) rfl) (pk (by kernel_rfl) pn) ?_
        rintro v6_5 H6_5 ⟨n6_5, l6_5, bad6_5, hw6_5, hn6_5, rfl, hU6_5⟩
        have m0_0 := m0_0.off hU6_5.but (nm0_0_mr)
        have m1_2 := m1_2.off hU6_5.but (nmr_1_2.symm)
        have md := md.off hU6_5.but (nmr_md.symm)
        have ho := ho.offU mr hU6_5.but (.inl rfl)
        have hX := hX.upd hU6_5.but grd
        have mr := hU6_5.blk
        refine ⟨(okc (lv_load (v := .slice _ _ _) rfl rfl (ld_blk md rfl)) okn), ?_⟩
        refine xp_pure (i := 6) rfl (by kernel_rfl) (by kernel_rfl) rfl rfl rfl (pv_build_s (cs := [.int _ _, .int _ _]) rfl rfl rfl) ?_
        refine xp_heavy (i := 7) (by kernel_rfl) ?_
        refine xph_val rfl rfl rfl rfl (hv_buildSlice (cs := [.int _ _, .int _ _]) rfl rfl rfl rfl rfl) (pk (by kernel_rfl) pn) ?_
        rintro v6_7 H6_7 ⟨b6_7, rfl, hN6_7⟩
        have gb6_7 := hX.fresh hN6_7
        have nm0_0_6_7 := m0_0.apart hN6_7
        have nmr_6_7 := mr.apart hN6_7
        have nm1_2_6_7 := m1_2.apart hN6_7
        have nmd_6_7 := md.apart hN6_7
        have pm6_7_ho := ho.apartN hN6_7
        have m0_0 := m0_0.ext hN6_7.ext
        have mr := mr.ext hN6_7.ext
        have m1_2 := m1_2.ext hN6_7.ext
        have md := md.ext hN6_7.ext
        have ho := ho.ext hN6_7.ext
        have hX := hX.trans hN6_7.ext
        have m6_7 := hN6_7.blk
        refine ⟨(okc (lv_load (v := .slice _ _ _) rfl rfl (ld_blk md rfl)) okn), ?_⟩
        refine xp_heavy (i := 8) (by kernel_rfl) ?_
        refine xph_val rfl rfl rfl rfl (hv_append rfl rfl ho rfl m6_7.row rfl (by simp [Value.oneCell']) rfl (by decide) (by omega) (by omega) hX.size) (pd (by kernel_rfl) pn) ?_
        rintro v6_8 H6_8 ⟨hO6_8, hG6_8, -, hB6_8⟩
        have m0_0 := m0_0.offT ho hG6_8 rfl
        have mr := mr.offT ho hG6_8 rfl
        have m1_2 := m1_2.offT ho hG6_8 rfl
        have md := md.offT ho hG6_8 rfl
        have hX := ho.grown hX hG6_8 (Nat.le_refl _)
        obtain ⟨a6_8, c6_8, rfl⟩ := hO6_8.val
        refine ⟨okn, ?_⟩
        refine xp_pure (i := 9) rfl (by kernel_rfl) (by kernel_rfl) rfl rfl rfl (pv_fieldAddr rfl rfl) ?_
        refine xp_heavy (i := 10) (by kernel_rfl) ?_
        refine xph_store rfl rfl rfl (hv_store (vs := [.slice _ _ _]) rfl rfl rfl (md) rfl (Nat.le_of_ble_eq_true rfl) rfl) pn ?_
        rintro v6_10 H6_10 ⟨hU6_10, hZ6_10⟩
        have m0_0 := m0_0.off hU6_10.but (nm0_0_md)
        have mr := mr.off hU6_10.but (nmr_md)
        have m1_2 := m1_2.off hU6_10.but (nm1_2_md)
        have hO6_8 := hO6_8.offU md hU6_10.but (.inl rfl)
        have hX := hX.upd hU6_10.but gbd
        have md := hU6_10.blk
        refine ⟨okn, ?_⟩
        refine xp_done (by kernel_rfl) ?_
        refine xblock_normal ?_
        refine xthen_normal ?_
        refine xc_region ?_
        refine xl_pure rfl rfl rfl (pv_add rfl rfl rfl (fit_i64 (by omega))) ?_
        refine xl_pure rfl rfl rfl (pv_move (v := .int _ _) rfl rfl) ?_
        refine xl_nil ?_
        refine xthen_normal ?_
        exact ⟨(xs ++ [((n6_3 : Int), (n6_5 : Int))], _, _, k + 1, _, _), ⟨rfl, rfl, rfl, rfl, rfl, rfl, trivial⟩, ⟨by (try simp only); omega, rdP_succ hrd hw6_3 hw6_5, by simp [hxl], m0_0, mr, m1_2, jcs_snoc md, by simpa [fl_snoc] using hO6_8, hX⟩, by (try simp only); omega⟩
      · skip
        refine xl_nil ?_
        refine xthen_normal ?_
        refine xc_seq ?_
        refine xc_cond_f rfl ?_
        refine xc_exit ?_
        refine xthen_exit ?_
        refine xthen_exit ?_
        refine xblock_same ?_
        refine xthen_normal ?_
        refine xc_seq ?_
        refine xc_region ?_
        refine xl_pure rfl rfl rfl (pv_move rfl rfl) ?_
        refine xl_heavy rfl rfl rfl (hv_call (g := 39) rfl rfl (c39 mr m1_2 nmr_1_2.symm) rfl) ?_
        rintro v8_1 H8_1 ⟨n8_1, l8_1, bad8_1, hw8_1, hn8_1, rfl, hU8_1⟩
        have m0_0 := m0_0.off hU8_1.but (nm0_0_mr)
        have m1_2 := m1_2.off hU8_1.but (nmr_1_2.symm)
        have md := md.off hU8_1.but (nmr_md.symm)
        have ho := ho.offU mr hU8_1.but (.inl rfl)
        have hX := hX.upd hU8_1.but grd
        have mr := hU8_1.blk
        refine xl_pure rfl rfl rfl (pv_move rfl rfl) ?_
        refine xl_heavy rfl rfl rfl (hv_call (g := 39) rfl rfl (c39 mr m1_2 nmr_1_2.symm) rfl) ?_
        rintro v8_3 H8_3 ⟨n8_3, l8_3, bad8_3, hw8_3, hn8_3, rfl, hU8_3⟩
        have m0_0 := m0_0.off hU8_3.but (nm0_0_mr)
        have m1_2 := m1_2.off hU8_3.but (nmr_1_2.symm)
        have md := md.off hU8_3.but (nmr_md.symm)
        have ho := ho.offU mr hU8_3.but (.inl rfl)
        have hX := hX.upd hU8_3.but grd
        have mr := hU8_3.blk
        refine xl_pure rfl rfl rfl (pv_move rfl rfl) ?_
        refine xl_heavy rfl rfl rfl (hv_call (g := 39) rfl rfl (c39 mr m1_2 nmr_1_2.symm) rfl) ?_
        rintro v8_5 H8_5 ⟨n8_5, l8_5, bad8_5, hw8_5, hn8_5, rfl, hU8_5⟩
        have m0_0 := m0_0.off hU8_5.but (nm0_0_mr)
        have m1_2 := m1_2.off hU8_5.but (nmr_1_2.symm)
        have md := md.off hU8_5.but (nmr_md.symm)
        have ho := ho.offU mr hU8_5.but (.inl rfl)
        have hX := hX.upd hU8_5.but grd
        have mr := hU8_5.blk
        refine xl_pure rfl rfl rfl (pv_move rfl rfl) ?_
        refine xl_heavy rfl rfl rfl (hv_call (g := 39) rfl rfl (c39 mr m1_2 nmr_1_2.symm) rfl) ?_
        rintro v8_7 H8_7 ⟨n8_7, l8_7, bad8_7, hw8_7, hn8_7, rfl, hU8_7⟩
        have m0_0 := m0_0.off hU8_7.but (nm0_0_mr)
        have m1_2 := m1_2.off hU8_7.but (nmr_1_2.symm)
        have md := md.off hU8_7.but (nmr_md.symm)
        have ho := ho.offU mr hU8_7.but (.inl rfl)
        have hX := hX.upd hU8_7.but grd
        have mr := hU8_7.blk
        refine xl_pure rfl rfl rfl (pv_fieldAddr rfl rfl) ?_
        refine xl_store rfl rfl (hv_store (vs := [.int _ _]) rfl rfl rfl (md) rfl (Nat.le_of_ble_eq_true rfl) rfl) ?_
        rintro v8_9 H8_9 ⟨hU8_9, hZ8_9⟩
        have m0_0 := m0_0.off hU8_9.but (nm0_0_md)
        have mr := mr.off hU8_9.but (nmr_md)
        have m1_2 := m1_2.off hU8_9.but (nm1_2_md)
        have ho := ho.offU md hU8_9.but (.inl rfl)
        have hX := hX.upd hU8_9.but gbd
        have md := hU8_9.blk
        refine xl_pure rfl rfl rfl (pv_fieldAddr rfl rfl) ?_
        refine xl_store rfl rfl (hv_store (vs := [.int _ _]) rfl rfl rfl (md) rfl (Nat.le_of_ble_eq_true rfl) rfl) ?_
        rintro v8_11 H8_11 ⟨hU8_11, hZ8_11⟩
        have m0_0 := m0_0.off hU8_11.but (nm0_0_md)
        have mr := mr.off hU8_11.but (nmr_md)
        have m1_2 := m1_2.off hU8_11.but (nm1_2_md)
        have ho := ho.offU md hU8_11.but (.inl rfl)
        have hX := hX.upd hU8_11.but gbd
        have md := hU8_11.blk
        refine xl_pure rfl rfl rfl (pv_fieldAddr rfl rfl) ?_
        refine xl_store rfl rfl (hv_store (vs := [.int _ _]) rfl rfl rfl (md) rfl (Nat.le_of_ble_eq_true rfl) rfl) ?_
        rintro v8_13 H8_13 ⟨hU8_13, hZ8_13⟩
        have m0_0 := m0_0.off hU8_13.but (nm0_0_md)
        have mr := mr.off hU8_13.but (nmr_md)
        have m1_2 := m1_2.off hU8_13.but (nm1_2_md)
        have ho := ho.offU md hU8_13.but (.inl rfl)
        have hX := hX.upd hU8_13.but gbd
        have md := hU8_13.blk
        refine xl_pure rfl rfl rfl (pv_fieldAddr rfl rfl) ?_
        refine xl_store rfl rfl (hv_store (vs := [.int _ _]) rfl rfl rfl (md) rfl (Nat.le_of_ble_eq_true rfl) rfl) ?_
        rintro v8_15 H8_15 ⟨hU8_15, hZ8_15⟩
        have m0_0 := m0_0.off hU8_15.but (nm0_0_md)
        have mr := mr.off hU8_15.but (nmr_md)
        have m1_2 := m1_2.off hU8_15.but (nm1_2_md)
        have ho := ho.offU md hU8_15.but (.inl rfl)
        have hX := hX.upd hU8_15.but gbd
        have md := hU8_15.blk
        refine xl_nil ?_
        refine xthen_normal ?_
        refine xc_seq ?_
        refine xc_seq ?_
        refine xc_region ?_
        refine xl_light rfl rfl rfl (lv_load (v := .pointer _) rfl rfl (ld_blk m1_2 rfl)) ?_
        refine xl_heavy rfl rfl rfl (hv_call (g := 41) rfl rfl (p26 mr) rfl) ?_
        rintro v9_1 H9_1 ⟨rfl, rfl⟩
        cases hdn : doneS (l8_7, bad8_7)
        · skip
          refine xl_pure rfl rfl rfl (pv_not rfl rfl) ?_
          refine xl_pure rfl rfl rfl (pv_move (v := .bool _) rfl rfl) ?_
          refine xl_skip rfl rfl rfl ?_
          refine xl_skip rfl rfl rfl ?_
          refine xl_skip rfl rfl rfl ?_
          refine xl_pure rfl rfl rfl (pv_pick_t (v := .bool _) rfl rfl rfl) ?_
          refine xl_nil ?_
          refine xthen_normal ?_
          refine xc_cond_t rfl ?_
          refine xc_seq ?_
          refine xc_region ?_
          refine xl_pure rfl rfl rfl (pv_build_s (cs := [.int _ _, .int _ _, .int _ _, .int _ _, .int _ _, .int _ _, .int _ _, .int _ _, .int _ _, .int _ _, .int _ _, .slice _ _ _, .int _ _, .int _ _, .int _ _, .int _ _]) rfl rfl rfl) ?_
          refine xl_store rfl rfl (hv_storeA (vs := [.int _ _, .int _ _, .int _ _, .int _ _, .int _ _, .int _ _, .int _ _, .int _ _, .int _ _, .int _ _, .int _ _, .slice _ _ _, .int _ _, .int _ _, .int _ _, .int _ _]) rfl rfl rfl (m0_0) rfl (by rfl) rfl) ?_
          rintro v10_1 H10_1 ⟨hU10_1, hZ10_1⟩
          have mr := mr.off hU10_1.but (nm0_0_mr.symm)
          have m1_2 := m1_2.off hU10_1.but (nm0_0_1_2.symm)
          have md := md.off hU10_1.but (nm0_0_md.symm)
          have ho := ho.offU m0_0 hU10_1.but (.inl rfl)
          have hX := hX.upd hU10_1.but gb0_0
          have m0_0 := hU10_1.blk
          refine xl_pure rfl rfl rfl (pv_assign (v := .int _ _) rfl rfl) ?_
          refine xl_nil ?_
          refine xthen_normal ?_
          refine xc_ret ?_
          refine xthen_ret ?_
          refine fin_ret (resv2 rfl (rv_c (ty := 26) rfl (ld_blk_a m0_0 rfl rfl)) (rv_t (v := .int _ _) rfl)) ?_
          first
            | exact ⟨2, J0, none, 0, rfl, read_ng (job_eq hns (by unfold rdL; rw [hw4_1]; simp only; rw [show n4_1 = k by omega]; exact hrd) (rdU_4 hw8_1 hw8_3 hw8_5 hw8_7)) hg9_5, .inl rfl, Nat.zero_le _, hX⟩
            | exact ⟨2, J0, none, 0, rfl, read_nd (congrArg Prod.snd (job_eq hns (by unfold rdL; rw [hw4_1]; simp only; rw [show n4_1 = k by omega]; exact hrd) (rdU_4 hw8_1 hw8_3 hw8_5 hw8_7))) hdn, .inl rfl, Nat.zero_le _, hX⟩
        · skip
          refine xl_pure rfl rfl rfl (pv_not rfl rfl) ?_
          refine xl_pure rfl rfl rfl (pv_move (v := .bool _) rfl rfl) ?_
          refine xl_light rfl rfl rfl (lv_load (v := .agg _) rfl rfl (ld_blk_a md rfl rfl)) ?_
          refine xl_heavy rfl rfl rfl (hv_call (g := 10) rfl rfl (c10 (mkJ ns xs [(n8_1 : Int), (n8_3 : Int), (n8_5 : Int), (n8_7 : Int)]) _ _ (own_stks ho) (by show xs.length < _; omega)) rfl) ?_
          rintro v9_5 H9_5 ⟨e9_5, rfl, hg9_5, hE9_5⟩
          have m0_0 := m0_0.ext hE9_5
          have mr := mr.ext hE9_5
          have m1_2 := m1_2.ext hE9_5
          have md := md.ext hE9_5
          have ho := ho.ext hE9_5
          have hX := hX.trans hE9_5
          rcases hg9_5 with ⟨hg9_5, rfl⟩ | ⟨hg9_5, rfl⟩
          · skip
            refine xl_ndec rfl rfl rfl (pv_neq rfl rfl rfl) (fun h9_6 => ?_) (fun h9_6 => ?_)
            · skip
              refine xl_pure rfl rfl rfl (pv_pick_f (v := .bool _) rfl rfl rfl) ?_
              refine xl_nil ?_
              refine xthen_normal ?_
              refine xc_cond_f rfl ?_
              refine xc_skip ?_
              refine xthen_normal ?_
              refine xc_seq ?_
              refine xc_region ?_
              refine xl_light rfl rfl rfl (lv_load (v := .agg _) rfl rfl (ld_blk_a md rfl rfl)) ?_
              refine xl_store rfl rfl (hv_storeA (vs := [.int _ _, .int _ _, .int _ _, .int _ _, .int _ _, .int _ _, .int _ _, .int _ _, .int _ _, .int _ _, .int _ _, .slice _ _ _, .int _ _, .int _ _, .int _ _, .int _ _]) rfl rfl rfl (m0_0) rfl (by rfl) rfl) ?_
              rintro v11_1 H11_1 ⟨hU11_1, hZ11_1⟩
              have mr := mr.off hU11_1.but (nm0_0_mr.symm)
              have m1_2 := m1_2.off hU11_1.but (nm0_0_1_2.symm)
              have md := md.off hU11_1.but (nm0_0_md.symm)
              have ho := ho.offU m0_0 hU11_1.but (.inl rfl)
              have hX := hX.upd hU11_1.but gb0_0
              have m0_0 := hU11_1.blk
              refine xl_pure rfl rfl rfl (pv_assign (v := .int _ _) rfl rfl) ?_
              refine xl_nil ?_
              refine xthen_normal ?_
              refine xc_ret ?_
              refine fin_ret (resv2 rfl (rv_c (ty := 26) rfl (ld_blk_a m0_0 rfl rfl)) (rv_t (v := .int _ _) rfl)) ?_
              exact ⟨0, (mkJ ns xs [(n8_1 : Int), (n8_3 : Int), (n8_5 : Int), (n8_7 : Int)]), va, vc, rfl, read_ok (job_eq hns (by unfold rdL; rw [hw4_1]; simp only; rw [show n4_1 = k by omega]; exact hrd) (rdU_4 hw8_1 hw8_3 hw8_5 hw8_7)) hdn hg9_5, own_stks ho, by show xs.length ≤ 8; omega, hX⟩
            · exact absurd (by decide) h9_6
          · skip
            refine xl_ndec rfl rfl rfl (pv_neq rfl rfl rfl) (fun h9_6 => ?_) (fun h9_6 => ?_)
            · exact absurd h9_6 (by decide)
            · skip
              refine xl_pure rfl rfl rfl (pv_pick_f (v := .bool _) rfl rfl rfl) ?_
              refine xl_nil ?_
              refine xthen_normal ?_
              refine xc_cond_t rfl ?_
              refine xc_seq ?_
              refine xc_region ?_
              refine xl_pure rfl rfl rfl (pv_build_s (cs := [.int _ _, .int _ _, .int _ _, .int _ _, .int _ _, .int _ _, .int _ _, .int _ _, .int _ _, .int _ _, .int _ _, .slice _ _ _, .int _ _, .int _ _, .int _ _, .int _ _]) rfl rfl rfl) ?_
              refine xl_store rfl rfl (hv_storeA (vs := [.int _ _, .int _ _, .int _ _, .int _ _, .int _ _, .int _ _, .int _ _, .int _ _, .int _ _, .int _ _, .int _ _, .slice _ _ _, .int _ _, .int _ _, .int _ _, .int _ _]) rfl rfl rfl (m0_0) rfl (by rfl) rfl) ?_
              rintro v10_1 H10_1 ⟨hU10_1, hZ10_1⟩
              have mr := mr.off hU10_1.but (nm0_0_mr.symm)
              have m1_2 := m1_2.off hU10_1.but (nm0_0_1_2.symm)
              have md := md.off hU10_1.but (nm0_0_md.symm)
              have ho := ho.offU m0_0 hU10_1.but (.inl rfl)
              have hX := hX.upd hU10_1.but gb0_0
              have m0_0 := hU10_1.blk
              refine xl_pure rfl rfl rfl (pv_assign (v := .int _ _) rfl rfl) ?_
              refine xl_nil ?_
              refine xthen_normal ?_
              refine xc_ret ?_
              refine xthen_ret ?_
              refine fin_ret (resv2 rfl (rv_c (ty := 26) rfl (ld_blk_a m0_0 rfl rfl)) (rv_t (v := .int _ _) rfl)) ?_
              first
                | exact ⟨2, J0, none, 0, rfl, read_ng (job_eq hns (by unfold rdL; rw [hw4_1]; simp only; rw [show n4_1 = k by omega]; exact hrd) (rdU_4 hw8_1 hw8_3 hw8_5 hw8_7)) hg9_5, .inl rfl, Nat.zero_le _, hX⟩
                | exact ⟨2, J0, none, 0, rfl, read_nd (congrArg Prod.snd (job_eq hns (by unfold rdL; rw [hw4_1]; simp only; rw [show n4_1 = k by omega]; exact hrd) (rdU_4 hw8_1 hw8_3 hw8_5 hw8_7))) hdn, .inl rfl, Nat.zero_le _, hX⟩
end Go.XG
