/-
  Walks of the seat's functions over the logic XG: each function, what it computes. Printed by a program out of wip/walks.py.
-/
import Derived.Test.YtdpgbnflielagaaI
import Derived.Test.YtdpgbnflielagaaN
import Derived.Test.YtdpgbnflielagaaWa
import Derived.Test.YtdpgbnflielagaaWb
import Derived.Test.YtdpgbnflielagaaWc
import Derived.Test.YtdpgbnflielagaaWd
import Derived.Test.YtdpgbnflielagaaWe
import Derived.Test.YtdpgbnflielagaaWf
import Derived.Test.YtdpgbnflielagaaWg
import Derived.Test.YtdpgbnflielagaaWh
namespace Go.XG
open Go.Proofs
set_option maxRecDepth 4000
set_option maxHeartbeats 4000000
theorem lines {O : Outer} {H : Heap} {bp m c : Nat} {a : Option Addr} {T : List Se} {f : Fn} {G : Nat → Prop} (mp : Blk H bp [.slice a T.length c, .map (some m)] 52) (hO : Own H 0 69 3 (.slice a T.length c) T.length (fE T)) (hm : MapI H m f) (hL : LS H G T) (hGp : G bp) (hGm : G m) (hGa : ∀ j, bk a j → G j) (hT : GT T) :
    FnC Try.prog 11 #[.pointer (some ⟨bp, 0, none⟩)] O H (fun v H' => ∃ a' c', v = .slice a' T.length c' ∧ LD H' a' (T.map lnP) ∧ Ext H H') := by
  have h16 := hT.len
  have hml : (T.map lnP).length = T.length := List.length_map _
  refine fn_enter (A := [.pointer (some ⟨bp, 0, none⟩)]) Try.func11 rfl rfl ?_
  have hX := Ext.refl H
  refine xc_seq ?_
  refine xc_region ?_
  refine xl_pure rfl rfl rfl (pv_assign (v := .slice _ _ _) rfl rfl) ?_
  refine xl_nil ?_
  refine xthen_normal ?_
  refine xc_seq ?_
  refine xc_seq ?_
  refine xc_region ?_
  refine xl_pure rfl rfl rfl (pv_move (v := .pointer _) rfl rfl) ?_
  refine xl_heavy rfl rfl rfl (hv_call (g := 29) rfl rfl (given mp hm h16) rfl) ?_
  rintro v1_1 H1_1 ⟨rfl, rfl⟩
  refine xl_pure rfl rfl rfl (pv_not rfl rfl) ?_
  refine xl_nil ?_
  refine xthen_normal ?_
  refine xc_cond_f rfl ?_
  refine xc_skip ?_
  refine xthen_normal ?_
  refine xc_seq ?_
  refine xc_region ?_
  refine xl_pure rfl rfl rfl (pv_assign (v := .slice _ _ _) rfl rfl) ?_
  refine xl_nil ?_
  refine xthen_normal ?_
  refine xc_seq ?_
  refine xc_seq ?_
  refine xc_region ?_
  refine xl_pure rfl rfl rfl (pv_move (v := .pointer _) rfl rfl) ?_
  refine xl_pure rfl rfl rfl (pv_nilCheck_p rfl rfl) ?_
  refine xl_pure rfl rfl rfl (pv_fieldAddr rfl rfl) ?_
  refine xl_light rfl rfl rfl (lv_load (v := .slice _ _ _) rfl rfl (ld_blk mp rfl)) ?_
  refine xl_pure rfl rfl rfl (pv_len_l rfl rfl) ?_
  refine xl_pure rfl rfl rfl (pv_move (v := .int _ _) rfl rfl) ?_
  refine xl_nil ?_
  refine xthen_normal ?_
  refine xc_block ?_
  refine xc_loop (τ := Nat × Option Addr × Nat × List Se) (fun t => [(3, .slice t.2.1 t.1 t.2.2.1), (12, .slice a T.length c), (13, .int .i64 (T.length : Nat)), (14, .int .i64 (t.1 : Nat))]) (fun t H' => (t.1 ≤ T.length) ∧ (Own H' H.size 40 2 (.slice t.2.1 t.1 t.2.2.1) t.1 (fL t.2.2.2)) ∧ (LnE H' t.2.2.2 ((T.map lnP).take t.1)) ∧ (Ext H H')) (fun t H' => T.length - t.1) (0, none, 0, []) ?_ ?_ ?_
  · exact ⟨rfl, rfl, rfl, rfl, trivial⟩
  · skip
    exact ⟨Nat.zero_le _, by simpa [fL] using Own.nil _ H.size 40 2, LnE.nil, hX⟩
  · intro σ
    clear hX mp
    rintro ⟨k, va, vc, E⟩ Hl5 ⟨hk, ho, hE, hX⟩
    replace hk : k ≤ T.length := hk
    replace ho : Own Hl5 H.size 40 2 (.slice va k vc) k (fL E) := ho
    replace hE : LnE Hl5 E ((T.map lnP).take k) := hE
    replace hX : Ext H Hl5 := hX
    show XC _ _ _ (upds σ [(3, .slice va k vc), (12, .slice a T.length c), (13, .int .i64 (T.length : Nat)), (14, .int .i64 (k : Nat))]) _
    refine xc_seq ?_
    refine xc_region ?_
    refine xl_dec rfl rfl rfl (pv_lss rfl rfl rfl) (fun h5_0 => ?_) (fun h5_0 => ?_)
    · skip
      refine xl_nil ?_
      refine xthen_normal ?_
      refine xc_seq ?_
      refine xc_cond_t rfl ?_
      refine xc_skip ?_
      refine xthen_normal ?_
      refine xc_seq ?_
      refine xc_block ?_
      refine xc_seq ?_
      obtain ⟨gb, ex, hae, mg, -, hnc, hcm, hexl⟩ := (own_blk2 hO).resolve_left (by omega)
      obtain ⟨hA1, hA2, hA3⟩ := hT.at_ k (by omega)
      refine xc_region ?_
      refine xl_pure rfl rfl rfl (pv_indexAddr_l rfl (sl_eq hae) rfl (by omega)) ?_
      refine xl_light rfl rfl rfl (lv_load (v := .agg _) rfl rfl (by exact ldS (mg.ext hX) (by omega))) ?_
      refine xl_heavy rfl rfl rfl (hv_alloc rfl rfl) ?_
      rintro v6_2 H6_2 ⟨b6_2, rfl, hN6_2⟩
      have gb6_2 := hX.fresh hN6_2
      have ho := ho.ext hN6_2.ext
      have hE := hE.ext hN6_2.ext
      have hX := hX.trans hN6_2.ext
      have m6_2 := hN6_2.blk
      refine xl_store rfl rfl (hv_storeA (vs := [.int _ _, .slice _ _ _, .slice _ _ _]) rfl rfl rfl (m6_2) rfl (by rfl) rfl) ?_
      rintro v6_3 H6_3 ⟨hU6_3, hZ6_3⟩
      have ho := ho.offU m6_2 hU6_3.but (.inl rfl)
      have hE := hE.offT m6_2 hU6_3.but (by first | rfl | assumption)
      have hX := hX.upd hU6_3.but gb6_2
      have m6_2 := hU6_3.blk
      refine xl_nil ?_
      refine xthen_normal ?_
      refine xp_start rfl (by repeat (first | with_reducible exact np_fin | with_reducible exact np_ret | with_reducible refine np_then ?_ | with_reducible refine np_block ?_)) (by kernel_rfl) ?_
      refine xp_pure (i := 0) rfl (by kernel_rfl) (by kernel_rfl) rfl rfl rfl (pv_move (v := .slice _ _ _) rfl rfl) ?_
      refine xp_pure (i := 1) rfl (by kernel_rfl) (by kernel_rfl) rfl rfl rfl (pv_fieldAddr rfl rfl) ?_
      refine xp_light (i := 2) rfl (by kernel_rfl) (by kernel_rfl) rfl rfl rfl (lv_load (v := .slice _ _ _) rfl rfl (ld_blk m6_2 rfl)) ?_
      refine xp_pure (i := 4) rfl (by kernel_rfl) (by kernel_rfl) rfl rfl rfl (pv_fieldAddr rfl rfl) ?_
      refine xp_light (i := 5) rfl (by kernel_rfl) (by kernel_rfl) rfl rfl rfl (lv_load (v := .slice _ _ _) rfl rfl (ld_blk m6_2 rfl)) ?_
      refine xp_heavy (i := 3) (by kernel_rfl) ?_
      refine xph_val rfl rfl rfl rfl (hv_call (g := 28) rfl rfl (clone (l := (gE T k).rn) ((hL.io k (by omega) false).ints.ext hX) (by omega)) rfl) (pk (by kernel_rfl) (pd (by kernel_rfl) pn)) ?_
      rintro v7_3 H7_3 ⟨a7_3, c7_3, rfl, hI7_3, -, hE7_3⟩
      have ho := ho.ext hE7_3
      have hE := hE.ext hE7_3
      have m6_2 := m6_2.ext hE7_3
      have hX := hX.trans hE7_3
      refine ⟨(okc (lv_load (v := .slice _ _ _) rfl rfl (ld_blk m6_2 rfl)) okn), ?_⟩
      refine xp_heavy (i := 6) (by kernel_rfl) ?_
      refine xph_val rfl rfl rfl rfl (hv_call (g := 28) rfl rfl (clone (l := (gE T k).wt) ((hL.io k (by omega) true).ints.ext hX) (by omega)) rfl) (pd (by kernel_rfl) pn) ?_
      rintro v7_6 H7_6 ⟨a7_6, c7_6, rfl, hI7_6, -, hE7_6⟩
      have ho := ho.ext hE7_6
      have hE := hE.ext hE7_6
      have m6_2 := m6_2.ext hE7_6
      have hI7_3 := hI7_3.ext hE7_6
      have hX := hX.trans hE7_6
      refine ⟨okn, ?_⟩
      refine xp_pure (i := 7) rfl (by kernel_rfl) (by kernel_rfl) rfl rfl rfl (pv_build_s (cs := [.slice _ _ _, .slice _ _ _]) rfl rfl rfl) ?_
      refine xp_heavy (i := 8) (by kernel_rfl) ?_
      refine xph_val rfl rfl rfl rfl (hv_buildSlice (cs := [.slice _ _ _, .slice _ _ _]) rfl rfl rfl rfl rfl) pn ?_
      rintro v7_8 H7_8 ⟨b7_8, rfl, hN7_8⟩
      have gb7_8 := hX.fresh hN7_8
      have pm7_8_ho := ho.apartN hN7_8
      have nm6_2_7_8 := m6_2.apart hN7_8
      have ho := ho.ext hN7_8.ext
      have hE := hE.ext hN7_8.ext
      have m6_2 := m6_2.ext hN7_8.ext
      have hI7_3 := hI7_3.ext hN7_8.ext
      have hI7_6 := hI7_6.ext hN7_8.ext
      have hX := hX.trans hN7_8.ext
      have m7_8 := hN7_8.blk
      refine ⟨okn, ?_⟩
      refine xp_heavy (i := 9) (by kernel_rfl) ?_
      refine xph_val rfl rfl rfl rfl (hv_append (size := 2) rfl rfl ho rfl m7_8.row rfl (by simp [Value.oneCell']) rfl (by decide) (by omega) (by omega) hX.size) pn ?_
      rintro v7_9 H7_9 ⟨hO7_9, hG7_9, -, hB7_9⟩
      have hE := hE.growT ho hG7_9 (by first | rfl | assumption)
      have m6_2 := m6_2.offT ho hG7_9 rfl
      have hI7_3 := hI7_3.growT ho hG7_9 (by first | rfl | assumption)
      have hI7_6 := hI7_6.growT ho hG7_9 (by first | rfl | assumption)
      have hX := ho.grown hX hG7_9 (Nat.le_refl _)
      obtain ⟨a7_9, c7_9, rfl⟩ := hO7_9.val
      refine ⟨okn, ?_⟩
      refine xp_pure (i := 10) rfl (by kernel_rfl) (by kernel_rfl) rfl rfl rfl (pv_assign (v := .slice _ _ _) rfl rfl) ?_
      refine xp_done (by kernel_rfl) ?_
      refine xblock_normal ?_
      refine xthen_normal ?_
      refine xc_region ?_
      refine xl_pure rfl rfl rfl (pv_add rfl rfl rfl (fit_i64 (by omega))) ?_
      refine xl_pure rfl rfl rfl (pv_move (v := .int _ _) rfl rfl) ?_
      refine xl_nil ?_
      refine xthen_normal ?_
      exact ⟨(k + 1, _, _, E ++ [⟨0, (gE T k).rn, a7_3, c7_3, (gE T k).wt, a7_6, c7_6⟩]), ⟨rfl, rfl, rfl, rfl, trivial⟩, ⟨by (try simp only); omega, by rw [fL_snoc]; exact hO7_9, by rw [take_ln (by omega), ln_get (by omega)]; exact hE.snoc hI7_3 hI7_6, hX⟩, by (try simp only); omega⟩
    · skip
      refine xl_nil ?_
      refine xthen_normal ?_
      refine xc_seq ?_
      refine xc_cond_f rfl ?_
      refine xc_exit ?_
      refine xthen_exit ?_
      refine xthen_exit ?_
      refine xblock_same ?_
      refine xthen_normal ?_
      refine xc_seq ?_
      refine xc_region ?_
      refine xl_pure rfl rfl rfl (pv_move (v := .slice _ _ _) rfl rfl) ?_
      refine xl_pure rfl rfl rfl (pv_assign (v := .slice _ _ _) rfl rfl) ?_
      refine xl_nil ?_
      refine xthen_normal ?_
      refine xc_ret ?_
      refine fin_ret (res1 (v := .slice _ _ _) rfl rfl) ?_
      obtain rfl : k = T.length := by omega
      have hq : (T.map lnP).take T.length = T.map lnP := by rw [← hml, List.take_length]
      rw [hq] at hE
      exact ⟨_, _, rfl, own_LD ho hE, hX⟩
end Go.XG
