/-
  Walks of the seat's functions over the logic XG: each function, what it computes. Printed by a program out of wip/walks.py.
-/
import Derived.Test.YtdpgbnflielagaaI
import Derived.Test.YtdpgbnflielagaaN
import Derived.Test.YtdpgbnflielagaaDm
import Derived.Test.YtdpgbnflielagaaWa
import Derived.Test.YtdpgbnflielagaaWb
import Derived.Test.YtdpgbnflielagaaWc
import Derived.Test.YtdpgbnflielagaaWd
import Derived.Test.YtdpgbnflielagaaWe
import Derived.Test.YtdpgbnflielagaaWf
import Derived.Test.YtdpgbnflielagaaWg
import Derived.Test.YtdpgbnflielagaaWh
import Derived.Test.YtdpgbnflielagaaWi
import Derived.Test.YtdpgbnflielagaaWj
import Derived.Test.YtdpgbnflielagaaWk
import Derived.Test.YtdpgbnflielagaaWl
import Derived.Test.YtdpgbnflielagaaWm
import Derived.Test.YtdpgbnflielagaaWo
import Derived.Test.YtdpgbnflielagaaWp
namespace Go.XG
open Go.Proofs
set_option maxRecDepth 4000
set_option maxHeartbeats 4000000
theorem dwith {O : Outer} {H : Heap} {la xa ra wa : Option Addr} {lc xc rc wc : Nat} {l : List (List Int)} {E : List Se} {G : Nat → Prop} {B : Nat} (hE : LE B H G xa E) (hEc : E.length ≤ xc) (h16 : E.length ≤ 16) {k : Nat} (hk : k < E.length) {r w : List Int} (hr : IX B H G ra r) (hw : IX B H G wa w) (hG : ∀ j, G j → j < H.size) :
    FnC Try.prog 45 #[.agg #[.slice la l.length lc, .slice xa E.length xc], .int .i64 (k : Nat), .agg #[.slice ra r.length rc, .slice wa w.length wc]] O H (fun v H' => ∃ a' c', v = .agg #[.slice la l.length lc, .slice a' E.length c'] ∧ LX B H' G a' c' ((E.map lnP).set k (r, w)) ∧ Ext H H') := by
  obtain ⟨gx, ox, hdx0⟩ := hE.at'
  have hdx := hdx0 (by omega)
  have hlt : (fL (E.take k)).length = k * 2 := by rw [fL_len, List.length_take, Nat.min_eq_left (Nat.le_of_lt hk)]
  have hld : (fL (E.drop (k + 1))).length = (E.length - (k + 1)) * 2 := by rw [fL_len, List.length_drop]
  refine fn_enter (A := [.agg #[.slice la l.length lc, .slice xa E.length xc], .int .i64 (k : Nat), .agg #[.slice ra r.length rc, .slice wa w.length wc]]) Try.func45 rfl rfl ?_
  have hX := Ext.refl H
  refine xc_seq ?_
  refine xc_region ?_
  refine xl_heavy rfl rfl rfl (hv_box rfl rfl) ?_
  rintro v0_0 H0_0 ⟨b0_0, rfl, hN0_0⟩
  have gb0_0 := hX.fresh hN0_0
  have hX := hX.trans hN0_0.ext
  have m0_0 := hN0_0.blk
  refine xl_heavy rfl rfl rfl (hv_box rfl rfl) ?_
  rintro v0_1 H0_1 ⟨b0_1, rfl, hN0_1⟩
  have gb0_1 := hX.fresh hN0_1
  have nm0_0_0_1 := m0_0.apart hN0_1
  have m0_0 := m0_0.ext hN0_1.ext
  have hX := hX.trans hN0_1.ext
  have m0_1 := hN0_1.blk
  refine xl_heavy rfl rfl rfl (hv_alloc rfl rfl) ?_
  rintro v0_2 H0_2 ⟨b0_2, rfl, hN0_2⟩
  have gb0_2 := hX.fresh hN0_2
  have nm0_0_0_2 := m0_0.apart hN0_2
  have nm0_1_0_2 := m0_1.apart hN0_2
  have m0_0 := m0_0.ext hN0_2.ext
  have m0_1 := m0_1.ext hN0_2.ext
  have hX := hX.trans hN0_2.ext
  have m0_2 := hN0_2.blk
  refine xl_nil ?_
  refine xthen_normal ?_
  refine xc_seq ?_
  refine xc_region ?_
  refine xl_pure rfl rfl rfl (pv_assign (v := .slice _ _ _) rfl rfl) ?_
  refine xl_nil ?_
  refine xthen_normal ?_
  refine xc_seq ?_
  refine xc_region ?_
  refine xl_pure rfl rfl rfl (pv_move (v := .slice _ _ _) rfl rfl) ?_
  refine xl_pure rfl rfl rfl (pv_fieldAddr rfl rfl) ?_
  refine xl_light rfl rfl rfl (lv_load (v := .slice _ _ _) rfl rfl (ld_blk m0_0 rfl)) ?_
  refine xl_pure rfl rfl rfl (pv_move (v := .int _ _) rfl rfl) ?_
  refine xl_pure rfl rfl rfl (pv_slice_l rfl rfl (.none _) (.some rfl (by omega)) (.none _) (by omega) (by simp)) ?_
  refine xl_heavy rfl rfl rfl (hv_append_cells (size := 2) (m := k) (c := xc) (news := fL (E.take k)) rfl rfl (Own.nil _ _ 40 2) rfl hlt (take_src hdx.1 (hdx.2.ext hX) k) (fL_one _) rfl (by decide) (by omega) (by omega) (Nat.le_refl _)) ?_
  rintro v2_5 H2_5 ⟨hO2_5, hG2_5⟩
  have pm0_1_hO2_5 := own_apart hO2_5 m0_1.lt
  have hO2_5 := own_le hO2_5 hX.size
  have m0_0 := m0_0.offT (Own.nil _ H.size 40 2) hG2_5 rfl
  have m0_1 := m0_1.offA hG2_5 Own.apartNil
  have m0_2 := m0_2.offT (Own.nil _ H.size 40 2) hG2_5 rfl
  have hX := Own.grown (Own.nil _ H.size 40 2) hX hG2_5 (Nat.le_refl _)
  obtain ⟨a2_5, c2_5, rfl⟩ := hO2_5.val
  refine xl_pure rfl rfl rfl (pv_assign (v := .slice _ _ _) rfl rfl) ?_
  refine xl_nil ?_
  refine xthen_normal ?_
  refine xc_seq ?_
  refine xc_region ?_
  refine xl_pure rfl rfl rfl (pv_move (v := .slice _ _ _) rfl rfl) ?_
  refine xl_light rfl rfl rfl (lv_load (v := .agg _) rfl rfl (ld_blk_a m0_1 rfl rfl)) ?_
  refine xl_heavy rfl rfl rfl (hv_buildSlice (cs := [.slice _ _ _, .slice _ _ _]) rfl rfl rfl rfl rfl) ?_
  rintro v3_2 H3_2 ⟨b3_2, rfl, hN3_2⟩
  have gb3_2 := hX.fresh hN3_2
  have nm0_0_3_2 := m0_0.apart hN3_2
  have nm0_1_3_2 := m0_1.apart hN3_2
  have nm0_2_3_2 := m0_2.apart hN3_2
  have pm3_2_hO2_5 := hO2_5.apartN hN3_2
  have m0_0 := m0_0.ext hN3_2.ext
  have m0_1 := m0_1.ext hN3_2.ext
  have m0_2 := m0_2.ext hN3_2.ext
  have hO2_5 := hO2_5.ext hN3_2.ext
  have hX := hX.trans hN3_2.ext
  have m3_2 := hN3_2.blk
  refine xl_heavy rfl rfl rfl (hv_append rfl rfl hO2_5 rfl (m3_2.row) rfl (by simp [Value.oneCell']) rfl (by decide) (by omega) (by omega) hX.size) ?_
  rintro v3_3 H3_3 ⟨hO3_3, hG3_3, -, hB3_3⟩
  have m0_0 := m0_0.offT hO2_5 hG3_3 rfl
  have lt_m0_1_3_3 := m0_1.lt
  have m0_1 := m0_1.offA hG3_3 (pm0_1_hO2_5)
  have m0_2 := m0_2.offT hO2_5 hG3_3 rfl
  have hX := hO2_5.grown hX hG3_3 (Nat.le_refl _)
  have pm0_1_hO3_3 := OwnApart.grown pm0_1_hO2_5 hB3_3 (lt_m0_1_3_3)
  obtain ⟨a3_3, c3_3, rfl⟩ := hO3_3.val
  refine xl_pure rfl rfl rfl (pv_assign (v := .slice _ _ _) rfl rfl) ?_
  refine xl_nil ?_
  refine xthen_normal ?_
  refine xc_seq ?_
  refine xc_region ?_
  refine xl_pure rfl rfl rfl (pv_move (v := .slice _ _ _) rfl rfl) ?_
  refine xl_pure rfl rfl rfl (pv_fieldAddr rfl rfl) ?_
  refine xl_light rfl rfl rfl (lv_load (v := .slice _ _ _) rfl rfl (ld_blk m0_0 rfl)) ?_
  refine xl_pure rfl rfl rfl (pv_move (v := .int _ _) rfl rfl) ?_
  refine xl_pure rfl rfl rfl (pv_add rfl rfl rfl (fit_i64 (by omega))) ?_
  refine xl_pure rfl rfl rfl (pv_slice_l rfl rfl (.none _) (.none _) (.some rfl (by omega)) (by omega) (by simp)) ?_
  refine xl_heavy rfl rfl rfl (hv_append_cells (size := 2) (m := E.length - (k + 1)) (c := xc - (k + 1)) (news := fL (E.drop (k + 1))) rfl rfl hO3_3 rfl hld (drop_src hdx.1 (hdx.2.ext hX) hEc hk) (fL_one _) rfl (by decide) (by omega) (by omega) hX.size) ?_
  rintro v4_6 H4_6 ⟨hO4_6, hG4_6⟩
  have m0_0 := m0_0.offT hO3_3 hG4_6 rfl
  have m0_2 := m0_2.offT hO3_3 hG4_6 rfl
  have hX := Own.grown hO3_3 hX hG4_6 (Nat.le_refl _)
  obtain ⟨a4_6, c4_6, rfl⟩ := hO4_6.val
  refine xl_pure rfl rfl rfl (pv_assign (v := .slice _ _ _) rfl rfl) ?_
  refine xl_nil ?_
  refine xthen_normal ?_
  refine xc_seq ?_
  refine xc_region ?_
  refine xl_pure rfl rfl rfl (pv_fieldAddr rfl rfl) ?_
  refine xl_light rfl rfl rfl (lv_load (v := .slice _ _ _) rfl rfl (ld_blk m0_0 rfl)) ?_
  refine xl_pure rfl rfl rfl (pv_move (v := .slice _ _ _) rfl rfl) ?_
  refine xl_pure rfl rfl rfl (pv_build_s (cs := [.slice _ _ _, .slice _ _ _]) rfl rfl rfl) ?_
  refine xl_store rfl rfl (hv_storeA (vs := [.slice _ _ _, .slice _ _ _]) rfl rfl rfl (m0_2) rfl (by rfl) rfl) ?_
  rintro v5_4 H5_4 ⟨hU5_4, hZ5_4⟩
  have m0_0 := m0_0.off hU5_4.but (by first | exact nm0_0_0_2 | exact ⟨m0_0.ne m0_2 rfl⟩ | exact ⟨m0_0.ne m0_2 (by assumption)⟩ | exact ⟨Ne.symm (m0_2.ne m0_0 (by assumption))⟩)
  have hO4_6 := hO4_6.offU m0_2 hU5_4.but (.inl rfl)
  have hX := hX.upd hU5_4.but gb0_2
  have m0_2 := hU5_4.blk
  refine xl_nil ?_
  refine xthen_normal ?_
  refine xc_ret ?_
  refine fin_ret (resv1 rfl (rv_c (ty := 45) rfl (ld_blk_a m0_2 rfl rfl))) ?_
  have hn : 0 + k + 1 + (E.length - (k + 1)) = E.length := by omega
  rw [hn] at hO4_6
  have e : [] ++ fL (E.take k) ++ [.slice ra r.length rc, .slice wa w.length wc] ++ fL (E.drop (k + 1)) = fL (E.set k ⟨0, r, ra, rc, w, wa, wc⟩) := by rw [List.nil_append]; exact fL_set (e := ⟨0, r, ra, rc, w, wa, wc⟩) hk
  rw [e] at hO4_6
  obtain ⟨g1, g2, g3⟩ := own_LE hO4_6 hG (set_all (p := fun e => IX B _ G e.ra e.rn ∧ IX B _ G e.wa e.wt) (hE.ext hX).1 ⟨hr.ext hX, hw.ext hX⟩)
  refine ⟨a4_6, c4_6, by rw [hn], ⟨_, ?_, g1, by omega⟩, hX⟩
  rw [map_setL]; rfl

theorem dwithS {O : Outer} {H : Heap} {la xa ra wa : Option Addr} {lc xc rc wc n : Nat} {l : List (List Int)} {E : List Se} {G : Nat → Prop} {B : Nat} (hn : E.length = n) (hE : LE B H G xa E) (hEc : E.length ≤ xc) (h16 : E.length ≤ 16) {k : Nat} (hk : k < E.length) {r w : List Int} (hr : IX B H G ra r) (hw : IX B H G wa w) (hG : ∀ j, G j → j < H.size) :
  FnC Try.prog 45 #[.agg #[.slice la l.length lc, .slice xa n xc], .int .i64 (k : Nat), .agg #[.slice ra r.length rc, .slice wa w.length wc]] O H (fun v H' => ∃ a' c', v = .agg #[.slice la l.length lc, .slice a' n c'] ∧ LX B H' G a' c' ((E.map lnP).set k (r, w)) ∧ Ext H H') := by
  subst hn; exact dwith hE hEc h16 hk hr hw hG
end Go.XG
