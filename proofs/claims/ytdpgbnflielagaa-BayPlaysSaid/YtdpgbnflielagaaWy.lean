/-
  Walks of the seat's functions over the logic XG: each function, what it computes. Printed by a program out of wip/walks.py.
-/
import Derived.Test.YtdpgbnflielagaaI
import Derived.Test.YtdpgbnflielagaaN
import Derived.Test.YtdpgbnflielagaaDc
import Derived.Test.YtdpgbnflielagaaWa
import Derived.Test.YtdpgbnflielagaaWb
import Derived.Test.YtdpgbnflielagaaWc
import Derived.Test.YtdpgbnflielagaaWd
import Derived.Test.YtdpgbnflielagaaWe
import Derived.Test.YtdpgbnflielagaaWf
import Derived.Test.YtdpgbnflielagaaWg
import Derived.Test.YtdpgbnflielagaaWh
import Derived.Test.YtdpgbnflielagaaWi
import Derived.Test.YtdpgbnflielagaaWj
import Derived.Test.YtdpgbnflielagaaWk
import Derived.Test.YtdpgbnflielagaaWl
import Derived.Test.YtdpgbnflielagaaWm
import Derived.Test.YtdpgbnflielagaaWo
import Derived.Test.YtdpgbnflielagaaWp
import Derived.Test.YtdpgbnflielagaaWq
import Derived.Test.YtdpgbnflielagaaWr
import Derived.Test.YtdpgbnflielagaaWs
import Derived.Test.YtdpgbnflielagaaWt
import Derived.Test.YtdpgbnflielagaaWu
import Derived.Test.YtdpgbnflielagaaWx
namespace Go.XG
open Go.Proofs
set_option maxRecDepth 4000
set_option maxHeartbeats 4000000
theorem cloneB {O : Outer} {H : Heap} {bp m c : Nat} {a : Option Addr} {T : List Se} {f : Fn} {G : Nat → Prop} (mp : Blk H bp [.slice a T.length c, .map (some m)] 52) (hO : Own H 0 69 3 (.slice a T.length c) T.length (fE T)) (hm : MapI H m f) (hL : LS H G T) (hGp : G bp) (hGm : G m) (hGa : ∀ j, bk a j → G j) (hT : GT T) (hf : ∀ j r, f j = some r ↔ ∃ n : Nat, r = (n : Int) ∧ n < T.length ∧ j ∈ jlE (gE T n)) :
    FnC Try.prog 16 #[.pointer (some ⟨bp, 0, none⟩)] O H (fun v H' => ∃ cp, v = .pointer (some ⟨cp, 0, none⟩) ∧ BB H' cp (fun j => H.size ≤ j ∧ j < H'.size) (T.map sdE) f ∧ Ext H H') := by
  have h16 := hT.len
  refine fn_enter (A := [.pointer (some ⟨bp, 0, none⟩)]) Try.func16 rfl rfl ?_
  have hX := Ext.refl H
  refine xc_seq ?_
  refine xc_region ?_
  refine xl_pure rfl rfl rfl (pv_assign (v := .pointer _) rfl rfl) ?_
  refine xl_nil ?_
  refine xthen_normal ?_
  refine xc_seq ?_
  refine xc_seq ?_
  refine xc_region ?_
  refine xl_pure rfl rfl rfl (pv_move (v := .pointer _) rfl rfl) ?_
  refine xl_heavy rfl rfl rfl (hv_call (g := 29) rfl rfl (given mp hm h16) rfl) ?_
  rintro v1_1 H1_1 ⟨rfl, rfl⟩
  refine xl_pure rfl rfl rfl (pv_not rfl rfl) ?_
  refine xl_nil ?_
  refine xthen_normal ?_
  refine xc_cond_f rfl ?_
  refine xc_skip ?_
  refine xthen_normal ?_
  refine xc_seq ?_
  refine xc_region ?_
  refine xl_heavy rfl rfl rfl (hv_makeMap kvI 1 rfl) ?_
  rintro v3_0 H3_0 ⟨b3_0, rfl, hN3_0⟩
  have hm2 := mapI_new hN3_0.map rfl
  have gm := hN3_0.ge
  have gb3_0 : Fresh H b3_0 := ⟨gm⟩
  have mp := mp.ext hN3_0.ext
  have hX := hX.trans hN3_0.ext
  refine xl_pure rfl rfl rfl (pv_build_s (cs := [.slice _ _ _, .map _]) rfl rfl rfl) ?_
  refine xl_heavy rfl rfl rfl (hv_box rfl rfl) ?_
  rintro v3_2 H3_2 ⟨b3_2, rfl, hN3_2⟩
  have gb3_2 := hX.fresh hN3_2
  have nmp_3_2 := mp.apart hN3_2
  have mp := mp.ext hN3_2.ext
  have hm2 := hm2.ext hN3_2.ext
  have hX := hX.trans hN3_2.ext
  have m3_2 := hN3_2.blk
  refine xl_pure rfl rfl rfl (pv_assign (v := .pointer _) rfl rfl) ?_
  refine xl_nil ?_
  refine xthen_normal ?_
  refine xc_seq ?_
  refine xc_seq ?_
  refine xc_region ?_
  refine xl_pure rfl rfl rfl (pv_move (v := .pointer _) rfl rfl) ?_
  refine xl_pure rfl rfl rfl (pv_nilCheck_p rfl rfl) ?_
  refine xl_pure rfl rfl rfl (pv_fieldAddr rfl rfl) ?_
  refine xl_light rfl rfl rfl (lv_load (v := .slice _ _ _) rfl rfl (ld_blk mp rfl)) ?_
  refine xl_pure rfl rfl rfl (pv_len_l rfl rfl) ?_
  refine xl_pure rfl rfl rfl (pv_move (v := .int _ _) rfl rfl) ?_
  refine xl_nil ?_
  refine xthen_normal ?_
  refine xc_block ?_
  refine xc_loop (τ := Nat × Option Addr × Nat × List Se × Fn) (fun t => [(3, .pointer (some ⟨b3_2, 0, none⟩)), (19, .slice a T.length c), (20, .int .i64 (T.length : Nat)), (21, .int .i64 (t.1 : Nat))]) (fun t H' => (t.1 ≤ T.length) ∧ (t.2.2.2.1.map sdE = (T.map sdE).take t.1) ∧ (CG T t.1 [] t.2.2.2.2) ∧ (Blk H' b3_2 [.slice t.2.1 (t.1) t.2.2.1, .map (some b3_0)] 52) ∧ (Own H' H.size 69 3 (.slice t.2.1 (t.1) t.2.2.1) (t.1) (fE t.2.2.2.1)) ∧ (LS H' (fun j => H.size ≤ j) t.2.2.2.1) ∧ (MapI H' b3_0 t.2.2.2.2) ∧ (Ext H H')) (fun t H' => T.length - t.1) (0, none, 0, [], (fun _ => none)) ?_ ?_ ?_
  · exact ⟨rfl, rfl, rfl, rfl, trivial⟩
  · skip
    exact ⟨Nat.zero_le _, by rw [List.take_zero]; rfl, cg_0, m3_2, Own.nil _ _ _ _, ls_nil, hm2, hX⟩
  · intro σ
    clear hX mp hm2 m3_2
    rintro ⟨k, va, vc, T2, g⟩ Hl5 ⟨hk, hT2, hg, mc, ho, hL2, hm2, hX⟩
    replace hk : k ≤ T.length := hk
    replace hT2 : T2.map sdE = (T.map sdE).take k := hT2
    replace hg : CG T k [] g := hg
    replace mc : Blk Hl5 b3_2 [.slice va (k) vc, .map (some b3_0)] 52 := mc
    replace ho : Own Hl5 H.size 69 3 (.slice va (k) vc) (k) (fE T2) := ho
    replace hL2 : LS Hl5 (fun j => H.size ≤ j) T2 := hL2
    replace hm2 : MapI Hl5 b3_0 g := hm2
    replace hX : Ext H Hl5 := hX
    show XC _ _ _ (upds σ [(3, .pointer (some ⟨b3_2, 0, none⟩)), (19, .slice a T.length c), (20, .int .i64 (T.length : Nat)), (21, .int .i64 (k : Nat))]) _
    refine xc_seq ?_
    refine xc_region ?_
    refine xl_dec rfl rfl rfl (pv_lss rfl rfl rfl) (fun h5_0 => ?_) (fun h5_0 => ?_)
    · skip
      refine xl_nil ?_
      refine xthen_normal ?_
      refine xc_seq ?_
      refine xc_cond_t rfl ?_
      refine xc_skip ?_
      refine xthen_normal ?_
      refine xc_seq ?_
      refine xc_block ?_
      refine xc_seq ?_
      have hkT : k < T.length := by omega
      obtain ⟨gb, ex, hae, mg, -, hnc, hcm, hexl⟩ := (own_blk2 hO).resolve_left (by omega)
      obtain ⟨hA1, hA2, hA3⟩ := hT.at_ k hkT
      obtain ⟨gr1, or1, hdr⟩ : ∃ g o, 0 < (gE T k).rn.length → (gE T k).ra = some ⟨g, o, none⟩ ∧ Row H g o (ints (gE T k).rn) := (hL.io k hkT false).ints.at'
      obtain ⟨gw1, ow1, hdw⟩ : ∃ g o, 0 < (gE T k).wt.length → (gE T k).wa = some ⟨g, o, none⟩ ∧ Row H g o (ints (gE T k).wt) := (hL.io k hkT true).ints.at'
      refine xc_region ?_
      refine xl_pure rfl rfl rfl (pv_move (v := .int _ _) rfl rfl) ?_
      refine xl_pure rfl rfl rfl (pv_indexAddr_l rfl (sl_eq hae) rfl (by omega)) ?_
      refine xl_light rfl rfl rfl (lv_load (v := .agg _) rfl rfl (by exact ldS (k := k) (mg.ext hX) hkT)) ?_
      refine xl_heavy rfl rfl rfl (hv_alloc rfl rfl) ?_
      rintro v6_3 H6_3 ⟨b6_3, rfl, hN6_3⟩
      have gb6_3 := hX.fresh hN6_3
      have nmc_6_3 := mc.apart hN6_3
      have pm6_3_ho := ho.apartN hN6_3
      have hm2 := hm2.ext hN6_3.ext
      have mc := mc.ext hN6_3.ext
      have ho := ho.ext hN6_3.ext
      have hL2 := hL2.ext hN6_3.ext
      have hX := hX.trans hN6_3.ext
      have m6_3 := hN6_3.blk
      refine xl_pure rfl rfl rfl (pv_assign (v := .int _ _) rfl rfl) ?_
      refine xl_store rfl rfl (hv_storeA (vs := [.int _ _, .slice _ _ _, .slice _ _ _]) rfl rfl rfl (m6_3) rfl (by rfl) rfl) ?_
      rintro v6_5 H6_5 ⟨hU6_5, hZ6_5⟩
      have hm2 := hm2.offT m6_3 hU6_5.but (by first | rfl | assumption)
      have mc := mc.off hU6_5.but (by first | exact nmc_6_3 | exact ⟨mc.ne m6_3 rfl⟩ | exact ⟨mc.ne m6_3 (by assumption)⟩ | exact ⟨Ne.symm (m6_3.ne mc (by assumption))⟩)
      have ho := ho.offU m6_3 hU6_5.but (.inr pm6_3_ho)
      have hL2 := hL2.offT m6_3 hU6_5.but (by first | rfl | assumption)
      have hX := hX.upd hU6_5.but gb6_3
      have m6_3 := hU6_5.blk
      refine xl_nil ?_
      refine xthen_normal ?_
      refine xc_seq ?_
      refine xp_start rfl (by repeat (first | with_reducible exact np_fin | with_reducible exact np_ret | with_reducible refine np_then ?_ | with_reducible refine np_block ?_)) (by kernel_rfl) ?_
      refine xp_pure (i := 0) rfl (by kernel_rfl) (by kernel_rfl) rfl rfl rfl (pv_move (v := .pointer _) rfl rfl) ?_
      refine xp_pure (i := 1) rfl (by kernel_rfl) (by kernel_rfl) rfl rfl rfl (pv_move (v := .pointer _) rfl rfl) ?_
      refine xp_pure (i := 2) rfl (by kernel_rfl) (by kernel_rfl) rfl rfl rfl (pv_nilCheck_p rfl rfl) ?_
      refine xp_pure (i := 3) rfl (by kernel_rfl) (by kernel_rfl) rfl rfl rfl (pv_fieldAddr rfl rfl) ?_
      refine xp_light (i := 4) rfl (by kernel_rfl) (by kernel_rfl) rfl rfl rfl (lv_load (v := .slice _ _ _) rfl rfl (ld_blk mc rfl)) ?_
      refine xp_pure (i := 5) rfl (by kernel_rfl) (by kernel_rfl) rfl rfl rfl (pv_fieldAddr rfl rfl) ?_
      refine xp_light (i := 6) rfl (by kernel_rfl) (by kernel_rfl) rfl rfl rfl (lv_load (v := .int _ _) rfl rfl (ld_blk m6_3 rfl)) ?_
      refine xp_pure (i := 7) rfl (by kernel_rfl) (by kernel_rfl) rfl rfl rfl (pv_fieldAddr rfl rfl) ?_
      refine xp_light (i := 8) rfl (by kernel_rfl) (by kernel_rfl) rfl rfl rfl (lv_load (v := .slice _ _ _) rfl rfl (ld_blk m6_3 rfl)) ?_
      refine xp_pure (i := 10) rfl (by kernel_rfl) (by kernel_rfl) rfl rfl rfl (pv_fieldAddr rfl rfl) ?_
      refine xp_light (i := 11) rfl (by kernel_rfl) (by kernel_rfl) rfl rfl rfl (lv_load (v := .slice _ _ _) rfl rfl (ld_blk m6_3 rfl)) ?_
      refine xp_heavy (i := 9) (by kernel_rfl) ?_
      refine xph_val rfl rfl rfl rfl (hv_call (g := 28) rfl rfl (cloneK rfl ((hL.io k hkT false).ints.ext hX) (show (gE T k).rn.length < 1000000 by omega)) rfl) (pk (by kernel_rfl) (pd (by kernel_rfl) (pk (by kernel_rfl) (pk (by kernel_rfl) pn)))) ?_
      rintro v7_9 H7_9 ⟨a7_9, c7_9, rfl, hI7_9, hB7_9, hE7_9⟩
      have hlt2 : ∀ k w j, k < T2.length → bk (adE (gE T2 k) w) j → j < _ := fun k w j hk hj => (hL2.io k hk w).lt hj
      have hge7_9 := hX.size
      have mc := mc.ext hE7_9
      have m6_3 := m6_3.ext hE7_9
      have ho := ho.ext hE7_9
      have hL2 := hL2.ext hE7_9
      have hm2 := hm2.ext hE7_9
      have hX := hX.trans hE7_9
      refine ⟨(okc (lv_load (v := .slice _ _ _) rfl rfl (ld_blk m6_3 rfl)) (okc (lv_load (v := .int _ _) rfl rfl (ld_blk m6_3 rfl)) (okc (lv_load (v := .slice _ _ _) rfl rfl (ld_blk mc rfl)) okn))), ?_⟩
      refine xp_heavy (i := 12) (by kernel_rfl) ?_
      refine xph_val rfl rfl rfl rfl (hv_call (g := 28) rfl rfl (cloneK rfl ((hL.io k hkT true).ints.ext hX) (show (gE T k).wt.length < 1000000 by omega)) rfl) (pd (by kernel_rfl) (pk (by kernel_rfl) (pk (by kernel_rfl) pn))) ?_
      rintro v7_12 H7_12 ⟨a7_12, c7_12, rfl, hI7_12, hB7_12, hE7_12⟩
      have hr1 : ∀ j, bk a7_9 j → j < _ := fun j hj => hI7_9.lt hj
      have mc := mc.ext hE7_12
      have m6_3 := m6_3.ext hE7_12
      have ho := ho.ext hE7_12
      have hL2 := hL2.ext hE7_12
      have hm2 := hm2.ext hE7_12
      have hI7_9 := hI7_9.ext hE7_12
      have hX := hX.trans hE7_12
      refine ⟨(okc (lv_load (v := .int _ _) rfl rfl (ld_blk m6_3 rfl)) (okc (lv_load (v := .slice _ _ _) rfl rfl (ld_blk mc rfl)) okn)), ?_⟩
      refine xp_pure (i := 13) rfl (by kernel_rfl) (by kernel_rfl) rfl rfl rfl (pv_build_s (cs := [.int _ _, .slice _ _ _, .slice _ _ _]) rfl rfl rfl) ?_
      refine xp_heavy (i := 14) (by kernel_rfl) ?_
      refine xph_val rfl rfl rfl rfl (hv_buildSlice (cs := [.int _ _, .slice _ _ _, .slice _ _ _]) rfl rfl rfl rfl rfl) (pk (by kernel_rfl) (pk (by kernel_rfl) pn)) ?_
      rintro v7_14 H7_14 ⟨b7_14, rfl, hN7_14⟩
      have gb7_14 := hX.fresh hN7_14
      have nmc_7_14 := mc.apart hN7_14
      have pm7_14_ho := ho.apartN hN7_14
      have nm6_3_7_14 := m6_3.apart hN7_14
      have hm2 := hm2.ext hN7_14.ext
      have mc := mc.ext hN7_14.ext
      have ho := ho.ext hN7_14.ext
      have hL2 := hL2.ext hN7_14.ext
      have m6_3 := m6_3.ext hN7_14.ext
      have hI7_9 := hI7_9.ext hN7_14.ext
      have hI7_12 := hI7_12.ext hN7_14.ext
      have hX := hX.trans hN7_14.ext
      have m7_14 := hN7_14.blk
      refine ⟨(okc (lv_load (v := .int _ _) rfl rfl (ld_blk m6_3 rfl)) (okc (lv_load (v := .slice _ _ _) rfl rfl (ld_blk mc rfl)) okn)), ?_⟩
      refine xp_heavy (i := 15) (by kernel_rfl) ?_
      refine xph_val rfl rfl rfl rfl (hv_append (size := 3) rfl rfl ho rfl m7_14.row rfl (by simp [Value.oneCell']) rfl (by decide) (by omega) (by omega) hX.size) (pk (by kernel_rfl) (pd (by kernel_rfl) pn)) ?_
      rintro v7_15 H7_15 ⟨hO7_15, hG7_15, -, hB7_15⟩
      have hm2 := hm2.growT ho hG7_15 (by first | rfl | assumption)
      have mc := mc.offT ho hG7_15 rfl
      have hL2 := hL2.growT ho hG7_15 (by first | rfl | assumption)
      have lt_m6_3_7_15 := m6_3.lt
      have m6_3 := m6_3.offA hG7_15 (pm6_3_ho)
      have hI7_9 := hI7_9.growT ho hG7_15 (by first | rfl | assumption)
      have hI7_12 := hI7_12.growT ho hG7_15 (by first | rfl | assumption)
      have hX := ho.grown hX hG7_15 (Nat.le_refl _)
      have pm6_3_hO7_15 := OwnApart.grown pm6_3_ho hB7_15 (lt_m6_3_7_15)
      obtain ⟨a7_15, c7_15, rfl⟩ := hO7_15.val
      refine ⟨(okc (lv_load (v := .int _ _) rfl rfl (ld_blk m6_3 rfl)) okn), ?_⟩
      refine xp_pure (i := 16) rfl (by kernel_rfl) (by kernel_rfl) rfl rfl rfl (pv_nilCheck_p rfl rfl) ?_
      refine xp_pure (i := 17) rfl (by kernel_rfl) (by kernel_rfl) rfl rfl rfl (pv_fieldAddr rfl rfl) ?_
      refine xp_heavy (i := 18) (by kernel_rfl) ?_
      refine xph_store rfl rfl rfl (hv_store (vs := [.slice _ _ _]) rfl rfl rfl (mc) rfl (Nat.le_of_ble_eq_true rfl) rfl) (pd (by kernel_rfl) pn) ?_
      rintro v7_18 H7_18 ⟨hU7_18, hZ7_18⟩
      have hm2 := hm2.offT mc hU7_18.but (by first | rfl | assumption)
      have hL2 := hL2.offT mc hU7_18.but (by first | rfl | assumption)
      have m6_3 := m6_3.off hU7_18.but (by first | exact nmc_6_3.symm | exact ⟨m6_3.ne mc rfl⟩ | exact ⟨m6_3.ne mc (by assumption)⟩ | exact ⟨Ne.symm (mc.ne m6_3 (by assumption))⟩)
      have hI7_9 := hI7_9.offT mc hU7_18.but (by first | rfl | assumption)
      have hI7_12 := hI7_12.offT mc hU7_18.but (by first | rfl | assumption)
      have hO7_15 := hO7_15.offU mc hU7_18.but (.inl rfl)
      have hX := hX.upd hU7_18.but gb3_2
      have mc := hU7_18.blk
      refine ⟨okn, ?_⟩
      refine xp_done (by kernel_rfl) ?_
      refine xthen_normal ?_
      refine xc_seq ?_
      refine xc_seq ?_
      have hL2 := LS.snoc (sl := (gE T k).sl) hL2 hlt2 hI7_9 hI7_12 hB7_9 hr1 hB7_12 hE7_9.size (fun j hj => Nat.le_trans hge7_9 hj)
      have hO7_15 := own_as hO7_15 (fE_one (a' := T2) (e := ⟨(gE T k).sl, (gE T k).rn, a7_9, c7_9, (gE T k).wt, a7_12, c7_12⟩)).symm
      refine xc_region ?_
      refine xl_pure rfl rfl rfl (pv_fieldAddr rfl rfl) ?_
      refine xl_light rfl rfl rfl (lv_load (v := .slice _ _ _) rfl rfl (ld_blk m6_3 rfl)) ?_
      refine xl_pure rfl rfl rfl (pv_len_l rfl rfl) ?_
      refine xl_pure rfl rfl rfl (pv_move (v := .int _ _) rfl rfl) ?_
      refine xl_nil ?_
      refine xthen_normal ?_
      refine xc_block ?_
      refine xc_loop (τ := Nat × Fn) (fun t => [(3, .pointer (some ⟨b3_2, 0, none⟩)), (4, .int .i64 (k : Nat)), (5, .pointer (some ⟨b6_3, 0, none⟩)), (19, .slice a T.length c), (20, .int .i64 (T.length : Nat)), (21, .int .i64 (k : Nat)), (45, .slice (gE T k).ra (gE T k).rn.length (gE T k).rc), (46, .int .i64 ((gE T k).rn.length : Nat)), (47, .int .i64 (t.1 : Nat))]) (fun t H' => (t.1 ≤ (gE T k).rn.length) ∧ (CG T k ([] ++ (gE T k).rn.take t.1) t.2) ∧ (Blk H' b3_2 [.slice a7_15 (k + 1) c7_15, .map (some b3_0)] 52) ∧ (Blk H' b6_3 [.int .i64 (gE T k).sl, .slice (gE T k).ra (gE T k).rn.length (gE T k).rc, .slice (gE T k).wa (gE T k).wt.length (gE T k).wc] 69) ∧ (Own H' H.size 69 3 (.slice a7_15 (k + 1) c7_15) (k + 1) (fE (T2 ++ [⟨(gE T k).sl, (gE T k).rn, a7_9, c7_9, (gE T k).wt, a7_12, c7_12⟩]))) ∧ (LS H' (fun j => H.size ≤ j) (T2 ++ [⟨(gE T k).sl, (gE T k).rn, a7_9, c7_9, (gE T k).wt, a7_12, c7_12⟩])) ∧ (MapI H' b3_0 t.2) ∧ (Ext H H')) (fun t H' => (gE T k).rn.length - t.1) (0, g) ?_ ?_ ?_
      · exact ⟨rfl, rfl, rfl, rfl, rfl, rfl, rfl, rfl, rfl, trivial⟩
      · skip
        exact ⟨Nat.zero_le _, by rw [List.take_zero]; exact hg, mc, m6_3, hO7_15, hL2, hm2, hX⟩
      · intro σ
        clear hX hm2 mc hL2 m6_3 hI7_9 hI7_12 hO7_15 hg
        rintro ⟨i, g⟩ Hl9 ⟨hi, hg, mc, m6_3, hO7_15, hL2, hm2, hX⟩
        replace hi : i ≤ (gE T k).rn.length := hi
        replace hg : CG T k ([] ++ (gE T k).rn.take i) g := hg
        replace mc : Blk Hl9 b3_2 [.slice a7_15 (k + 1) c7_15, .map (some b3_0)] 52 := mc
        replace m6_3 : Blk Hl9 b6_3 [.int .i64 (gE T k).sl, .slice (gE T k).ra (gE T k).rn.length (gE T k).rc, .slice (gE T k).wa (gE T k).wt.length (gE T k).wc] 69 := m6_3
        replace hO7_15 : Own Hl9 H.size 69 3 (.slice a7_15 (k + 1) c7_15) (k + 1) (fE (T2 ++ [⟨(gE T k).sl, (gE T k).rn, a7_9, c7_9, (gE T k).wt, a7_12, c7_12⟩])) := hO7_15
        replace hL2 : LS Hl9 (fun j => H.size ≤ j) (T2 ++ [⟨(gE T k).sl, (gE T k).rn, a7_9, c7_9, (gE T k).wt, a7_12, c7_12⟩]) := hL2
        replace hm2 : MapI Hl9 b3_0 g := hm2
        replace hX : Ext H Hl9 := hX
        show XC _ _ _ (upds σ [(3, .pointer (some ⟨b3_2, 0, none⟩)), (4, .int .i64 (k : Nat)), (5, .pointer (some ⟨b6_3, 0, none⟩)), (19, .slice a T.length c), (20, .int .i64 (T.length : Nat)), (21, .int .i64 (k : Nat)), (45, .slice (gE T k).ra (gE T k).rn.length (gE T k).rc), (46, .int .i64 ((gE T k).rn.length : Nat)), (47, .int .i64 (i : Nat))]) _
        refine xc_seq ?_
        refine xc_region ?_
        refine xl_dec rfl rfl rfl (pv_lss rfl rfl rfl) (fun h9_0 => ?_) (fun h9_0 => ?_)
        · skip
          refine xl_nil ?_
          refine xthen_normal ?_
          refine xc_seq ?_
          refine xc_cond_t rfl ?_
          refine xc_skip ?_
          refine xthen_normal ?_
          refine xc_seq ?_
          refine xc_block ?_
          refine xc_seq ?_
          refine xc_region ?_
          refine xl_pure rfl rfl rfl (pv_indexAddr_l rfl (sl_eq (hdr (by omega)).1) rfl (by omega)) ?_
          refine xl_light rfl rfl rfl (lv_load (v := .int _ _) rfl rfl (by exact ld_nth (k := i) ((hdr (by omega)).2.ext hX) (by omega))) ?_
          refine xl_pure rfl rfl rfl (pv_assign (v := .int _ _) rfl rfl) ?_
          refine xl_nil ?_
          refine xthen_normal ?_
          refine xc_region ?_
          refine xl_pure rfl rfl rfl (pv_move (v := .pointer _) rfl rfl) ?_
          refine xl_pure rfl rfl rfl (pv_nilCheck_p rfl rfl) ?_
          refine xl_pure rfl rfl rfl (pv_fieldAddr rfl rfl) ?_
          refine xl_light rfl rfl rfl (lv_load (v := .map _) rfl rfl (ld_blk mc rfl)) ?_
          refine xl_pure rfl rfl rfl (pv_move (v := .int _ _) rfl rfl) ?_
          refine xl_pure rfl rfl rfl (pv_move (v := .int _ _) rfl rfl) ?_
          refine xl_store rfl rfl (hv_putI rfl rfl rfl rfl hm2) ?_
          rintro v11_6 H11_6 ⟨hm11_6, hU11_6⟩
          have mc := mc.but hU11_6 (hm2.blk mc).ne
          have m6_3 := m6_3.but hU11_6 (hm2.blk m6_3).ne
          have hO7_15 := own_offI hO7_15 hm2 hU11_6
          have hL2 := hL2.offI hm2 hU11_6
          have hX := hX.upd hU11_6 gb3_0
          have hm2 := hm11_6
          refine xl_nil ?_
          refine xblock_normal ?_
          refine xthen_normal ?_
          refine xc_region ?_
          refine xl_pure rfl rfl rfl (pv_add rfl rfl rfl (fit_i64 (by omega))) ?_
          refine xl_pure rfl rfl rfl (pv_move (v := .int _ _) rfl rfl) ?_
          refine xl_nil ?_
          refine xthen_normal ?_
          exact ⟨(i + 1, _), ⟨rfl, rfl, rfl, rfl, rfl, rfl, rfl, rfl, rfl, trivial⟩, ⟨by (try simp only); omega, by have h := hg.put (fn_one hf hkT (jl_r (i := i) (by omega))); rw [app_take (q := []) (by omega)] at h; exact h, mc, m6_3, hO7_15, hL2, hm2, hX⟩, by (try simp only); omega⟩
        · skip
          refine xl_nil ?_
          refine xthen_normal ?_
          refine xc_seq ?_
          refine xc_cond_f rfl ?_
          refine xc_exit ?_
          refine xthen_exit ?_
          refine xthen_exit ?_
          refine xblock_same ?_
          refine xthen_normal ?_
          refine xc_seq ?_
          refine xc_region ?_
          refine xl_pure rfl rfl rfl (pv_fieldAddr rfl rfl) ?_
          refine xl_light rfl rfl rfl (lv_load (v := .slice _ _ _) rfl rfl (ld_blk m6_3 rfl)) ?_
          refine xl_pure rfl rfl rfl (pv_len_l rfl rfl) ?_
          refine xl_pure rfl rfl rfl (pv_move (v := .int _ _) rfl rfl) ?_
          refine xl_nil ?_
          refine xthen_normal ?_
          refine xc_block ?_
          refine xc_loop (τ := Nat × Fn) (fun t => [(3, .pointer (some ⟨b3_2, 0, none⟩)), (4, .int .i64 (k : Nat)), (19, .slice a T.length c), (20, .int .i64 (T.length : Nat)), (21, .int .i64 (k : Nat)), (59, .slice (gE T k).wa (gE T k).wt.length (gE T k).wc), (60, .int .i64 ((gE T k).wt.length : Nat)), (61, .int .i64 (t.1 : Nat))]) (fun t H' => (t.1 ≤ (gE T k).wt.length) ∧ (CG T k ((gE T k).rn ++ (gE T k).wt.take t.1) t.2) ∧ (Blk H' b3_2 [.slice a7_15 (k + 1) c7_15, .map (some b3_0)] 52) ∧ (Blk H' b6_3 [.int .i64 (gE T k).sl, .slice (gE T k).ra (gE T k).rn.length (gE T k).rc, .slice (gE T k).wa (gE T k).wt.length (gE T k).wc] 69) ∧ (Own H' H.size 69 3 (.slice a7_15 (k + 1) c7_15) (k + 1) (fE (T2 ++ [⟨(gE T k).sl, (gE T k).rn, a7_9, c7_9, (gE T k).wt, a7_12, c7_12⟩]))) ∧ (LS H' (fun j => H.size ≤ j) (T2 ++ [⟨(gE T k).sl, (gE T k).rn, a7_9, c7_9, (gE T k).wt, a7_12, c7_12⟩])) ∧ (MapI H' b3_0 t.2) ∧ (Ext H H')) (fun t H' => (gE T k).wt.length - t.1) (0, g) ?_ ?_ ?_
          · exact ⟨rfl, rfl, rfl, rfl, rfl, rfl, rfl, rfl, trivial⟩
          · skip
            exact ⟨Nat.zero_le _, by have e : i = (gE T k).rn.length := (by omega); rw [e, List.take_length, List.nil_append] at hg; rw [List.take_zero, List.append_nil]; exact hg, mc, m6_3, hO7_15, hL2, hm2, hX⟩
          · intro σ
            clear hX hm2 mc hL2 m6_3 hO7_15 hg hi
            rintro ⟨i, g⟩ Hl14 ⟨hi, hg, mc, m6_3, hO7_15, hL2, hm2, hX⟩
            replace hi : i ≤ (gE T k).wt.length := hi
            replace hg : CG T k ((gE T k).rn ++ (gE T k).wt.take i) g := hg
            replace mc : Blk Hl14 b3_2 [.slice a7_15 (k + 1) c7_15, .map (some b3_0)] 52 := mc
            replace m6_3 : Blk Hl14 b6_3 [.int .i64 (gE T k).sl, .slice (gE T k).ra (gE T k).rn.length (gE T k).rc, .slice (gE T k).wa (gE T k).wt.length (gE T k).wc] 69 := m6_3
            replace hO7_15 : Own Hl14 H.size 69 3 (.slice a7_15 (k + 1) c7_15) (k + 1) (fE (T2 ++ [⟨(gE T k).sl, (gE T k).rn, a7_9, c7_9, (gE T k).wt, a7_12, c7_12⟩])) := hO7_15
            replace hL2 : LS Hl14 (fun j => H.size ≤ j) (T2 ++ [⟨(gE T k).sl, (gE T k).rn, a7_9, c7_9, (gE T k).wt, a7_12, c7_12⟩]) := hL2
            replace hm2 : MapI Hl14 b3_0 g := hm2
            replace hX : Ext H Hl14 := hX
            show XC _ _ _ (upds σ [(3, .pointer (some ⟨b3_2, 0, none⟩)), (4, .int .i64 (k : Nat)), (19, .slice a T.length c), (20, .int .i64 (T.length : Nat)), (21, .int .i64 (k : Nat)), (59, .slice (gE T k).wa (gE T k).wt.length (gE T k).wc), (60, .int .i64 ((gE T k).wt.length : Nat)), (61, .int .i64 (i : Nat))]) _
            refine xc_seq ?_
            refine xc_region ?_
            refine xl_dec rfl rfl rfl (pv_lss rfl rfl rfl) (fun h14_0 => ?_) (fun h14_0 => ?_)
            · skip
              refine xl_nil ?_
              refine xthen_normal ?_
              refine xc_seq ?_
              refine xc_cond_t rfl ?_
              refine xc_skip ?_
              refine xthen_normal ?_
              refine xc_seq ?_
              refine xc_block ?_
              refine xc_seq ?_
              refine xc_region ?_
              refine xl_pure rfl rfl rfl (pv_indexAddr_l rfl (sl_eq (hdw (by omega)).1) rfl (by omega)) ?_
              refine xl_light rfl rfl rfl (lv_load (v := .int _ _) rfl rfl (by exact ld_nth (k := i) ((hdw (by omega)).2.ext hX) (by omega))) ?_
              refine xl_pure rfl rfl rfl (pv_assign (v := .int _ _) rfl rfl) ?_
              refine xl_nil ?_
              refine xthen_normal ?_
              refine xc_region ?_
              refine xl_pure rfl rfl rfl (pv_move (v := .pointer _) rfl rfl) ?_
              refine xl_pure rfl rfl rfl (pv_nilCheck_p rfl rfl) ?_
              refine xl_pure rfl rfl rfl (pv_fieldAddr rfl rfl) ?_
              refine xl_light rfl rfl rfl (lv_load (v := .map _) rfl rfl (ld_blk mc rfl)) ?_
              refine xl_pure rfl rfl rfl (pv_move (v := .int _ _) rfl rfl) ?_
              refine xl_pure rfl rfl rfl (pv_move (v := .int _ _) rfl rfl) ?_
              refine xl_store rfl rfl (hv_putI rfl rfl rfl rfl hm2) ?_
              rintro v16_6 H16_6 ⟨hm16_6, hU16_6⟩
              have mc := mc.but hU16_6 (hm2.blk mc).ne
              have m6_3 := m6_3.but hU16_6 (hm2.blk m6_3).ne
              have hO7_15 := own_offI hO7_15 hm2 hU16_6
              have hL2 := hL2.offI hm2 hU16_6
              have hX := hX.upd hU16_6 gb3_0
              have hm2 := hm16_6
              refine xl_nil ?_
              refine xblock_normal ?_
              refine xthen_normal ?_
              refine xc_region ?_
              refine xl_pure rfl rfl rfl (pv_add rfl rfl rfl (fit_i64 (by omega))) ?_
              refine xl_pure rfl rfl rfl (pv_move (v := .int _ _) rfl rfl) ?_
              refine xl_nil ?_
              refine xthen_normal ?_
              exact ⟨(i + 1, _), ⟨rfl, rfl, rfl, rfl, rfl, rfl, rfl, rfl, trivial⟩, ⟨by (try simp only); omega, by have h := hg.put (fn_one hf hkT (jl_w (i := i) (by omega))); rw [app_take (q := (gE T k).rn) (by omega)] at h; exact h, mc, m6_3, hO7_15, hL2, hm2, hX⟩, by (try simp only); omega⟩
            · skip
              refine xl_nil ?_
              refine xthen_normal ?_
              refine xc_seq ?_
              refine xc_cond_f rfl ?_
              refine xc_exit ?_
              refine xthen_exit ?_
              refine xthen_exit ?_
              refine xblock_same ?_
              refine xblock_normal ?_
              refine xthen_normal ?_
              refine xc_region ?_
              refine xl_pure rfl rfl rfl (pv_add rfl rfl rfl (fit_i64 (by omega))) ?_
              refine xl_pure rfl rfl rfl (pv_move (v := .int _ _) rfl rfl) ?_
              refine xl_nil ?_
              refine xthen_normal ?_
              exact ⟨(k + 1, _, _, _, _), ⟨rfl, rfl, rfl, rfl, trivial⟩, ⟨by (try simp only); omega, sd_take hkT hT2, hg.next (by rw [show i = (gE T k).wt.length by omega, List.take_length]; rfl), mc, hO7_15, hL2, hm2, hX⟩, by (try simp only); omega⟩
    · skip
      refine xl_nil ?_
      refine xthen_normal ?_
      refine xc_seq ?_
      refine xc_cond_f rfl ?_
      refine xc_exit ?_
      refine xthen_exit ?_
      refine xthen_exit ?_
      refine xblock_same ?_
      refine xthen_normal ?_
      refine xc_seq ?_
      refine xc_region ?_
      refine xl_pure rfl rfl rfl (pv_move (v := .pointer _) rfl rfl) ?_
      refine xl_pure rfl rfl rfl (pv_assign (v := .pointer _) rfl rfl) ?_
      refine xl_nil ?_
      refine xthen_normal ?_
      refine xc_ret ?_
      refine fin_ret (res1 (v := .pointer _) rfl rfl) ?_
      have hke : k = T.length := by omega
      have e1 := hg.eq hke hf
      subst e1
      have hln := sd_len hT2 hk
      subst hke
      rw [← List.length_map (f := sdE), List.take_length] at hT2
      have hbb := clone_BB hln mc ho hm2 hL2 gb3_2.le gm
      rw [hT2] at hbb
      exact ⟨b3_2, rfl, hbb, hX⟩
end Go.XG
