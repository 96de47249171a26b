/-
  Walks of the seat's functions over the logic XG: each function, what it computes. Printed by a program out of wip/walks.py.
-/
import Derived.Test.YtdpgbnflielagaaI
import Derived.Test.YtdpgbnflielagaaN
import Derived.Test.YtdpgbnflielagaaV
import Derived.Test.YtdpgbnflielagaaDl
import Derived.Test.YtdpgbnflielagaaWa
import Derived.Test.YtdpgbnflielagaaWb
import Derived.Test.YtdpgbnflielagaaWc
import Derived.Test.YtdpgbnflielagaaWd
import Derived.Test.YtdpgbnflielagaaWe
import Derived.Test.YtdpgbnflielagaaWf
import Derived.Test.YtdpgbnflielagaaWg
import Derived.Test.YtdpgbnflielagaaWh
import Derived.Test.YtdpgbnflielagaaWi
import Derived.Test.YtdpgbnflielagaaWj
import Derived.Test.YtdpgbnflielagaaWk
import Derived.Test.YtdpgbnflielagaaWl
import Derived.Test.YtdpgbnflielagaaWm
import Derived.Test.YtdpgbnflielagaaWn
import Derived.Test.YtdpgbnflielagaaWo
import Derived.Test.YtdpgbnflielagaaWp
import Derived.Test.YtdpgbnflielagaaWq
import Derived.Test.YtdpgbnflielagaaWr
import Derived.Test.YtdpgbnflielagaaWs
import Derived.Test.YtdpgbnflielagaaWt
import Derived.Test.YtdpgbnflielagaaWu
namespace Go.XG
open Go.Proofs
set_option maxRecDepth 4000
set_option maxHeartbeats 4000000
def Nob (H : Heap) (p : Option Addr) : Prop := p = none ∨ ∃ bp s, p = some ⟨bp, 0, none⟩ ∧ Blk H bp [s, .map none] 52
section
variable {O : Outer} {H H1 : Heap} {p : Option Addr}
theorem Nob.ext (h : Nob H p) (x : Ext H H1) : Nob H1 p := h.imp id fun ⟨bp, s, h1, h2⟩ => ⟨bp, s, h1, h2.ext x⟩
theorem askX (h : Nob H p) (b o j : Int) : FnC Try.prog 9 #[.pointer p, .int .i64 b, .int .i64 o, .int .i64 j] O H (fun v H' => v = .tuple #[.bool false, .int .i64 1] ∧ H = H') := by
  rcases h with rfl | ⟨bp, s, rfl, h⟩
  · exact askN b o j
  · exact ask0 h b o j
theorem leaveX (h : Nob H p) (j : Int) : FnC Try.prog 10 #[.pointer p, .int .i64 j] O H (fun v H' => v = .tuple #[.int .i64 0, .int .i64 1] ∧ Ext H H') := by
  rcases h with rfl | ⟨bp, s, rfl, h⟩
  · exact leaveN j
  · exact leave0 h j
theorem whereX (h : Nob H p) (j : Int) : FnC Try.prog 14 #[.pointer p, .int .i64 j] O H (fun v H' => v = .tuple #[.int .i64 0, .int .i64 0, .int .i64 0, .int .i64 1] ∧ H = H') := by
  rcases h with rfl | ⟨bp, s, rfl, h⟩
  · exact whereN j
  · exact where0 h j
theorem freeX (h : Nob H p) (b o : Int) : FnC Try.prog 15 #[.pointer p, .int .i64 b, .int .i64 o] O H (fun v H' => v = .tuple #[.int .i64 0, .int .i64 1] ∧ H = H') := by
  rcases h with rfl | ⟨bp, s, rfl, h⟩
  · exact freeN b o
  · exact free0 h b o
theorem linesX (h : Nob H p) : FnC Try.prog 11 #[.pointer p] O H (fun v H' => v = .slice none 0 0 ∧ H = H') := by
  rcases h with rfl | ⟨bp, s, rfl, h⟩
  · exact linesN
  · exact lines0 h
theorem cloneX (h : Nob H p) : FnC Try.prog 16 #[.pointer p] O H (fun v H' => v = .pointer none ∧ H = H') := by
  rcases h with rfl | ⟨bp, s, rfl, h⟩
  · exact cloneBN
  · exact cloneB0 h
theorem two_ptr {b i : Nat} (hi : i < 2) : [Value.pointer none, .pointer (some ⟨b, 0, none⟩)][i]? = some (.pointer ([none, some ⟨b, 0, none⟩].getD i none)) := by
  have h2 : i = 0 ∨ i = 1 := by omega
  rcases h2 with rfl | rfl <;> rfl
theorem nob_two {b i : Nat} (h : Blk H b [.slice none 0 0, .map none] 52) : Nob H ([none, some ⟨b, 0, none⟩].getD i none) := by
  match i with
  | 0 => exact .inl rfl
  | 1 => exact .inr ⟨b, _, rfl, h⟩
  | i + 2 => exact .inl rfl
theorem cell_pt {b i : Nat} {cs : List Value} {t : TypeId} {v : Value} (h : Blk H b cs t) (hv : cs[i]? = some v) : cellAt H b (0 + i * 1) = some v := by
  rw [h.cell, Nat.zero_add, Nat.mul_one]; exact hv
end

theorem c4 {O : Outer} {H : Heap} {a : Option Addr} {c : Nat} {l : List (List Int)} (hs : Rows H a 4 l) (q b o j : Int) :
    FnC Try.prog 4 #[.slice a l.length c, .agg #[.int .i64 q, .int .i64 b, .int .i64 o, .int .i64 j]] O H (fun v H' => v = .bool true ∧ Ext H H') := by
  refine fn_enter (A := [.slice a l.length c, .agg #[.int .i64 q, .int .i64 b, .int .i64 o, .int .i64 j]]) Try.func4 rfl rfl ?_
  have hX := Ext.refl H
  refine xc_seq ?_
  refine xc_region ?_
  refine xl_heavy rfl rfl rfl (hv_box rfl rfl) ?_
  rintro v0_0 H0_0 ⟨b0_0, rfl, hN0_0⟩
  have gb0_0 := hX.fresh hN0_0
  have hX := hX.trans hN0_0.ext
  have m0_0 := hN0_0.blk
  refine xl_pure rfl rfl rfl (pv_assign (v := .bool _) rfl rfl) ?_
  refine xl_nil ?_
  refine xthen_normal ?_
  refine xc_seq ?_
  refine xc_seq ?_
  refine xc_region ?_
  refine xl_pure rfl rfl rfl (pv_move (v := .slice _ _ _) rfl rfl) ?_
  refine xl_pure rfl rfl rfl (pv_len_l rfl rfl) ?_
  refine xl_dec rfl rfl rfl (pv_gtr rfl rfl rfl) (fun h1_2 => ?_) (fun h1_2 => ?_)
  · skip
    refine xl_nil ?_
    refine xthen_normal ?_
    refine xc_cond_t rfl ?_
    refine xc_seq ?_
    refine xc_region ?_
    refine xl_heavy rfl rfl rfl (hv_call (g := 8) rfl rfl (awake) rfl) ?_
    rintro v2_0 H2_0 ⟨rfl, hE2_0⟩
    have m0_0 := m0_0.ext hE2_0
    have hX := hX.trans hE2_0
    refine xl_pure rfl rfl rfl (pv_assign (v := .bool _) rfl rfl) ?_
    refine xl_nil ?_
    refine xthen_normal ?_
    refine xc_ret ?_
    refine xthen_ret ?_
    refine fin_ret (res1 (v := .bool _) rfl rfl) ?_
    exact ⟨rfl, hX⟩
  · skip
    refine xl_nil ?_
    refine xthen_normal ?_
    refine xc_cond_f rfl ?_
    refine xc_skip ?_
    refine xthen_normal ?_
    refine xc_seq ?_
    refine xc_region ?_
    refine xl_pure rfl rfl rfl (pv_move (v := .slice _ _ _) rfl rfl) ?_
    refine xl_heavy rfl rfl rfl (hv_call (g := 7) rfl rfl (new_ (hs.ext hX) (by omega)) rfl) ?_
    rintro v3_1 H3_1 ⟨hv3_1, hE3_1⟩
    have m0_0 := m0_0.ext hE3_1
    have hX := hX.trans hE3_1
    rcases hv3_1 with ⟨hok, bp, rfl, hb⟩ | ⟨hno, rfl⟩
    · skip
      obtain ⟨G, hb, hG⟩ : ∃ G, BB _ bp G (newS l) (fun _ => none) ∧ ∀ i, G i → i < _ := ⟨_, hb, fun i h => h.2⟩
      refine xl_pure rfl rfl rfl (pv_move (v := .tuple _) rfl rfl) ?_
      refine xl_pure rfl rfl rfl (pv_extract (v := .pointer _) rfl rfl rfl) ?_
      refine xl_pure rfl rfl rfl (pv_extract (v := .int _ _) rfl rfl rfl) ?_
      refine xl_pure rfl rfl rfl (pv_assign (v := .pointer _) rfl rfl) ?_
      refine xl_pure rfl rfl rfl (pv_assign (v := .int _ _) rfl rfl) ?_
      refine xl_nil ?_
      refine xthen_normal ?_
      refine xc_seq ?_
      refine xc_region ?_
      refine xl_pure rfl rfl rfl (pv_move (v := .slice _ _ _) rfl rfl) ?_
      refine xl_heavy rfl rfl rfl (hv_call (g := 12) rfl rfl (dnew (B := H.size) (G := G) (hs.ext hX) (by omega) hG hX.size) rfl) ?_
      rintro v4_1 H4_1 ⟨hv4_1, hE4_1⟩
      have m0_0 := m0_0.ext hE4_1
      have hX := hX.trans hE4_1
      obtain ⟨-, ax, cx, rfl, hL⟩ := hv4_1.resolve_right (fun h => h.1 hok)
      have hb := hb.ext hE4_1
      refine xl_pure rfl rfl rfl (pv_move (v := .tuple _) rfl rfl) ?_
      refine xl_pure rfl rfl rfl (pv_extract (v := .agg _) rfl rfl rfl) ?_
      refine xl_pure rfl rfl rfl (pv_extract (v := .int _ _) rfl rfl rfl) ?_
      refine xl_heavy rfl rfl rfl (hv_alloc rfl rfl) ?_
      rintro v4_5 H4_5 ⟨b4_5, rfl, hN4_5⟩
      have gb4_5 := hX.fresh hN4_5
      have nm0_0_4_5 := m0_0.apart hN4_5
      have m0_0 := m0_0.ext hN4_5.ext
      have hL := hL.ext hN4_5.ext
      have hX := hX.trans hN4_5.ext
      have m4_5 := hN4_5.blk
      have hbB := gb4_5.le
      refine xl_store rfl rfl (hv_storeA (vs := [.slice _ _ _, .slice _ _ _]) rfl rfl rfl (m4_5) rfl (by rfl) rfl) ?_
      rintro v4_6 H4_6 ⟨hU4_6, hZ4_6⟩
      have m0_0 := m0_0.off hU4_6.but (by first | exact nm0_0_4_5 | exact ⟨m0_0.ne m4_5 rfl⟩ | exact ⟨m0_0.ne m4_5 (by assumption)⟩ | exact ⟨Ne.symm (m4_5.ne m0_0 (by assumption))⟩)
      have hL := hL.offT m4_5 hU4_6.but (by first | rfl | assumption)
      have hX := hX.upd hU4_6.but gb4_5
      have m4_5 := hU4_6.blk
      try have hb := hb_off hb hG hE4_1.size hN4_5 hU4_6.but
      refine xl_pure rfl rfl rfl (pv_assign (v := .int _ _) rfl rfl) ?_
      refine xl_nil ?_
      refine xthen_normal ?_
      refine xc_seq ?_
      refine xc_seq ?_
      refine xp_start rfl (by repeat (first | with_reducible exact np_fin | with_reducible exact np_ret | with_reducible refine np_then ?_ | with_reducible refine np_block ?_)) (by kernel_rfl) ?_
      refine xp_pure (i := 0) rfl (by kernel_rfl) (by kernel_rfl) rfl rfl rfl (pv_move (v := .int _ _) rfl rfl) ?_
      refine xp_pure (i := 1) rfl (by kernel_rfl) (by kernel_rfl) rfl rfl rfl (pv_move (v := .int _ _) rfl rfl) ?_
      refine xp_ndec (i := 2) rfl (by kernel_rfl) (by kernel_rfl) rfl rfl rfl (pv_neq rfl rfl rfl) (fun h5_2 => ?_) (fun h5_2 => ?_)
      · skip
        refine xp_pure (i := 3) rfl (by kernel_rfl) (by kernel_rfl) rfl rfl rfl (pv_move (v := .bool _) rfl rfl) ?_
        refine xp_pure (i := 4) rfl (by kernel_rfl) (by kernel_rfl) rfl rfl rfl (pv_move (v := .pointer _) rfl rfl) ?_
        refine xp_pure (i := 5) rfl (by kernel_rfl) (by kernel_rfl) rfl rfl rfl (pv_neq_pn rfl rfl rfl) ?_
        refine xp_pure (i := 6) rfl (by kernel_rfl) (by kernel_rfl) rfl rfl rfl (pv_move (v := .int _ _) rfl rfl) ?_
        refine xp_dec (i := 7) rfl (by kernel_rfl) (by kernel_rfl) rfl rfl rfl (pv_eql rfl rfl rfl) (fun h5_7 => ?_) (fun h5_7 => ?_)
        · skip
          refine xp_pure (i := 8) rfl (by kernel_rfl) (by kernel_rfl) rfl rfl rfl (pv_neq_b rfl rfl rfl) ?_
          refine xp_pure (i := 9) rfl (by kernel_rfl) (by kernel_rfl) rfl rfl rfl (pv_pick_f (v := .bool _) rfl rfl rfl) ?_
          refine xp_pure (i := 10) rfl (by kernel_rfl) (by kernel_rfl) rfl rfl rfl (pv_move (v := .bool _) rfl rfl) ?_
          refine xp_pure (i := 11) rfl (by kernel_rfl) (by kernel_rfl) rfl rfl rfl (pv_move (v := .pointer _) rfl rfl) ?_
          refine xp_pure (i := 12) rfl (by kernel_rfl) (by kernel_rfl) rfl rfl rfl (pv_neq_pn rfl rfl rfl) ?_
          refine xp_pure (i := 13) rfl (by kernel_rfl) (by kernel_rfl) rfl rfl rfl (pv_move (v := .bool _) rfl rfl) ?_
          refine xp_pure (i := 14) rfl (by kernel_rfl) (by kernel_rfl) rfl rfl rfl (pv_move (v := .pointer _) rfl rfl) ?_
          refine xp_pure (i := 16) rfl (by kernel_rfl) (by kernel_rfl) rfl rfl rfl (pv_fieldAddr rfl rfl) ?_
          refine xp_light (i := 17) rfl (by kernel_rfl) (by kernel_rfl) rfl rfl rfl (lv_load (v := .slice _ _ _) rfl rfl (ld_blk m4_5 rfl)) ?_
          refine xp_heavy (i := 15) (by kernel_rfl) ?_
          refine xph_val rfl rfl rfl rfl (hv_call (g := 11) rfl rfl (linesB hb (new_iv hok).gs) rfl) (pk (by kernel_rfl) pn) ?_
          rintro v5_15 H5_15 ⟨a5_15, c5_15, rfl, hD5_15, hE5_15⟩
          have m0_0 := m0_0.ext hE5_15
          have hL := hL.ext hE5_15
          have m4_5 := m4_5.ext hE5_15
          have hX := hX.trans hE5_15
          refine ⟨(okc (lv_load (v := .slice _ _ _) rfl rfl (ld_blk m4_5 rfl)) okn), ?_⟩
          refine xp_heavy (i := 18) (by kernel_rfl) ?_
          refine xph_val rfl rfl rfl rfl (hv_call (g := 13) rfl rfl (sameL hD5_15 hL.ld (by simp) (by simp [newS_len]) (by simp [newS_len]; have := hok.1; omega) (fun e he => new_small he)) rfl) (pd (by kernel_rfl) pn) ?_
          rintro v5_18 H5_18 ⟨r5_18, rfl, hb5_18, rfl⟩
          obtain rfl : r5_18 = true := hb5_18.2 rfl
          refine ⟨okn, ?_⟩
          refine xp_pure (i := 19) rfl (by kernel_rfl) (by kernel_rfl) rfl rfl rfl (pv_not rfl rfl) ?_
          refine xp_pure (i := 20) rfl (by kernel_rfl) (by kernel_rfl) rfl rfl rfl (pv_pick_t (v := .bool _) rfl rfl rfl) ?_
          refine xp_pure (i := 21) rfl (by kernel_rfl) (by kernel_rfl) rfl rfl rfl (pv_pick_f (v := .bool _) rfl rfl rfl) ?_
          refine xp_done (by kernel_rfl) ?_
          refine xthen_normal ?_
          refine xc_cond_f rfl ?_
          refine xc_skip ?_
          refine xthen_normal ?_
          refine xc_seq ?_
          refine xc_region ?_
          refine xl_pure rfl rfl rfl (pv_build_s (cs := [.slice _ _ _, .map _]) rfl rfl rfl) ?_
          refine xl_heavy rfl rfl rfl (hv_box rfl rfl) ?_
          rintro v7_1 H7_1 ⟨b7_1, rfl, hN7_1⟩
          have gb7_1 := hX.fresh hN7_1
          have nm0_0_7_1 := m0_0.apart hN7_1
          have nm4_5_7_1 := m4_5.apart hN7_1
          have m0_0 := m0_0.ext hN7_1.ext
          have hL := hL.ext hN7_1.ext
          have m4_5 := m4_5.ext hN7_1.ext
          have hX := hX.trans hN7_1.ext
          have m7_1 := hN7_1.blk
          refine xl_heavy rfl rfl rfl (hv_buildSlice (cs := [.pointer _, .pointer _]) rfl rfl rfl rfl rfl) ?_
          rintro v7_2 H7_2 ⟨b7_2, rfl, hN7_2⟩
          have gb7_2 := hX.fresh hN7_2
          have nm0_0_7_2 := m0_0.apart hN7_2
          have nm4_5_7_2 := m4_5.apart hN7_2
          have nm7_1_7_2 := m7_1.apart hN7_2
          have m0_0 := m0_0.ext hN7_2.ext
          have hL := hL.ext hN7_2.ext
          have m4_5 := m4_5.ext hN7_2.ext
          have m7_1 := m7_1.ext hN7_2.ext
          have hX := hX.trans hN7_2.ext
          have m7_2 := hN7_2.blk
          refine xl_pure rfl rfl rfl (pv_assign (v := .slice _ _ _) rfl rfl) ?_
          refine xl_nil ?_
          refine xthen_normal ?_
          refine xc_seq ?_
          refine xc_seq ?_
          refine xc_region ?_
          refine xl_pure rfl rfl rfl (pv_assign (v := .int _ _) rfl rfl) ?_
          refine xl_nil ?_
          refine xthen_normal ?_
          refine xc_block ?_
          refine xc_loop (τ := Nat) (fun t => [(3, .pointer (some ⟨b0_0, 0, none⟩)), (9, .slice (some ⟨b7_2, 0, none⟩) 2 2), (10, .int .i64 (t : Nat))]) (fun t H' => (t ≤ 2) ∧ (Blk H' b0_0 [.int .i64 q, .int .i64 b, .int .i64 o, .int .i64 j] 43) ∧ (Blk H' b7_1 [.slice none 0 0, .map none] 52) ∧ (Blk H' b7_2 [.pointer none, .pointer (some ⟨b7_1, 0, none⟩)] 23) ∧ (Ext H H')) (fun t H' => 2 - t) 0 ?_ ?_ ?_
          · exact ⟨rfl, rfl, rfl, trivial⟩
          · skip
            exact ⟨Nat.zero_le _, m0_0, m7_1, m7_2, hX⟩
          · intro σ
            clear hX m0_0 hL m4_5 m7_1 m7_2
            rintro i Hl9 ⟨hi, m0_0, m7_1, m7_2, hX⟩
            replace hi : i ≤ 2 := hi
            replace m0_0 : Blk Hl9 b0_0 [.int .i64 q, .int .i64 b, .int .i64 o, .int .i64 j] 43 := m0_0
            replace m7_1 : Blk Hl9 b7_1 [.slice none 0 0, .map none] 52 := m7_1
            replace m7_2 : Blk Hl9 b7_2 [.pointer none, .pointer (some ⟨b7_1, 0, none⟩)] 23 := m7_2
            replace hX : Ext H Hl9 := hX
            show XC _ _ _ (upds σ [(3, .pointer (some ⟨b0_0, 0, none⟩)), (9, .slice (some ⟨b7_2, 0, none⟩) 2 2), (10, .int .i64 (i : Nat))]) _
            refine xc_seq ?_
            refine xc_seq ?_
            refine xc_region ?_
            refine xl_pure rfl rfl rfl (pv_move (v := .int _ _) rfl rfl) ?_
            refine xl_pure rfl rfl rfl (pv_move (v := .slice _ _ _) rfl rfl) ?_
            refine xl_pure rfl rfl rfl (pv_len_l rfl rfl) ?_
            refine xl_dec rfl rfl rfl (pv_lss rfl rfl rfl) (fun h9_3 => ?_) (fun h9_3 => ?_)
            · skip
              refine xl_nil ?_
              refine xthen_normal ?_
              refine xc_cond_t rfl ?_
              refine xc_skip ?_
              refine xthen_normal ?_
              refine xc_seq ?_
              refine xc_block ?_
              refine xc_seq ?_
              have hi2 : i < 2 := by omega
              have hq := nob_two (i := i) m7_1
              refine xp_start rfl (by repeat (first | with_reducible exact np_fin | with_reducible exact np_ret | with_reducible refine np_then ?_ | with_reducible refine np_block ?_)) (by kernel_rfl) ?_
              refine xp_pure (i := 0) rfl (by kernel_rfl) (by kernel_rfl) rfl rfl rfl (pv_move (v := .slice _ _ _) rfl rfl) ?_
              refine xp_pure (i := 1) rfl (by kernel_rfl) (by kernel_rfl) rfl rfl rfl (pv_move (v := .int _ _) rfl rfl) ?_
              refine xp_pure (i := 2) rfl (by kernel_rfl) (by kernel_rfl) rfl rfl rfl (pv_indexAddr_l rfl rfl rfl (by omega)) ?_
              refine xp_light (i := 3) rfl (by kernel_rfl) (by kernel_rfl) rfl rfl rfl (lv_load (v := .pointer _) rfl rfl (by exact cell_pt m7_2 (two_ptr hi2))) ?_
              refine xp_pure (i := 4) rfl (by kernel_rfl) (by kernel_rfl) rfl rfl rfl (pv_fieldAddr rfl rfl) ?_
              refine xp_light (i := 5) rfl (by kernel_rfl) (by kernel_rfl) rfl rfl rfl (lv_load (v := .int _ _) rfl rfl (ld_blk m0_0 rfl)) ?_
              refine xp_pure (i := 6) rfl (by kernel_rfl) (by kernel_rfl) rfl rfl rfl (pv_fieldAddr rfl rfl) ?_
              refine xp_light (i := 7) rfl (by kernel_rfl) (by kernel_rfl) rfl rfl rfl (lv_load (v := .int _ _) rfl rfl (ld_blk m0_0 rfl)) ?_
              refine xp_pure (i := 8) rfl (by kernel_rfl) (by kernel_rfl) rfl rfl rfl (pv_fieldAddr rfl rfl) ?_
              refine xp_light (i := 9) rfl (by kernel_rfl) (by kernel_rfl) rfl rfl rfl (lv_load (v := .int _ _) rfl rfl (ld_blk m0_0 rfl)) ?_
              refine xp_heavy (i := 10) (by kernel_rfl) ?_
              refine xph_val rfl rfl rfl rfl (hv_call (g := 9) rfl rfl (askX hq b o j) rfl) (pd (by kernel_rfl) (pd (by kernel_rfl) (pd (by kernel_rfl) (pd (by kernel_rfl) pn)))) ?_
              rintro v11_10 H11_10 ⟨rfl, rfl⟩
              refine ⟨okn, ?_⟩
              refine xp_pure (i := 11) rfl (by kernel_rfl) (by kernel_rfl) rfl rfl rfl (pv_move (v := .tuple _) rfl rfl) ?_
              refine xp_pure (i := 12) rfl (by kernel_rfl) (by kernel_rfl) rfl rfl rfl (pv_extract (v := .bool _) rfl rfl rfl) ?_
              refine xp_pure (i := 13) rfl (by kernel_rfl) (by kernel_rfl) rfl rfl rfl (pv_extract (v := .int _ _) rfl rfl rfl) ?_
              refine xp_pure (i := 14) rfl (by kernel_rfl) (by kernel_rfl) rfl rfl rfl (pv_assign (v := .bool _) rfl rfl) ?_
              refine xp_pure (i := 15) rfl (by kernel_rfl) (by kernel_rfl) rfl rfl rfl (pv_assign (v := .int _ _) rfl rfl) ?_
              refine xp_done (by kernel_rfl) ?_
              refine xthen_normal ?_
              refine xc_seq ?_
              refine xp_start rfl (by repeat (first | with_reducible exact np_fin | with_reducible exact np_ret | with_reducible refine np_then ?_ | with_reducible refine np_block ?_)) (by kernel_rfl) ?_
              refine xp_pure (i := 0) rfl (by kernel_rfl) (by kernel_rfl) rfl rfl rfl (pv_move (v := .slice _ _ _) rfl rfl) ?_
              refine xp_pure (i := 1) rfl (by kernel_rfl) (by kernel_rfl) rfl rfl rfl (pv_move (v := .int _ _) rfl rfl) ?_
              refine xp_pure (i := 2) rfl (by kernel_rfl) (by kernel_rfl) rfl rfl rfl (pv_indexAddr_l rfl rfl rfl (by omega)) ?_
              refine xp_light (i := 3) rfl (by kernel_rfl) (by kernel_rfl) rfl rfl rfl (lv_load (v := .pointer _) rfl rfl (by exact cell_pt m7_2 (two_ptr hi2))) ?_
              refine xp_pure (i := 4) rfl (by kernel_rfl) (by kernel_rfl) rfl rfl rfl (pv_fieldAddr rfl rfl) ?_
              refine xp_light (i := 5) rfl (by kernel_rfl) (by kernel_rfl) rfl rfl rfl (lv_load (v := .int _ _) rfl rfl (ld_blk m0_0 rfl)) ?_
              refine xp_heavy (i := 6) (by kernel_rfl) ?_
              refine xph_val rfl rfl rfl rfl (hv_call (g := 10) rfl rfl (leaveX hq j) rfl) (pd (by kernel_rfl) (pd (by kernel_rfl) pn)) ?_
              rintro v12_6 H12_6 ⟨rfl, hE12_6⟩
              have m0_0 := m0_0.ext hE12_6
              have m7_1 := m7_1.ext hE12_6
              have m7_2 := m7_2.ext hE12_6
              have hX := hX.trans hE12_6
              refine ⟨okn, ?_⟩
              refine xp_pure (i := 7) rfl (by kernel_rfl) (by kernel_rfl) rfl rfl rfl (pv_move (v := .tuple _) rfl rfl) ?_
              refine xp_pure (i := 8) rfl (by kernel_rfl) (by kernel_rfl) rfl rfl rfl (pv_extract (v := .int _ _) rfl rfl rfl) ?_
              refine xp_pure (i := 9) rfl (by kernel_rfl) (by kernel_rfl) rfl rfl rfl (pv_extract (v := .int _ _) rfl rfl rfl) ?_
              refine xp_pure (i := 10) rfl (by kernel_rfl) (by kernel_rfl) rfl rfl rfl (pv_assign (v := .int _ _) rfl rfl) ?_
              refine xp_pure (i := 11) rfl (by kernel_rfl) (by kernel_rfl) rfl rfl rfl (pv_assign (v := .int _ _) rfl rfl) ?_
              refine xp_done (by kernel_rfl) ?_
              refine xthen_normal ?_
              refine xc_seq ?_
              have hq := nob_two (i := i) m7_1
              refine xp_start rfl (by repeat (first | with_reducible exact np_fin | with_reducible exact np_ret | with_reducible refine np_then ?_ | with_reducible refine np_block ?_)) (by kernel_rfl) ?_
              refine xp_pure (i := 0) rfl (by kernel_rfl) (by kernel_rfl) rfl rfl rfl (pv_move (v := .slice _ _ _) rfl rfl) ?_
              refine xp_pure (i := 1) rfl (by kernel_rfl) (by kernel_rfl) rfl rfl rfl (pv_move (v := .int _ _) rfl rfl) ?_
              refine xp_pure (i := 2) rfl (by kernel_rfl) (by kernel_rfl) rfl rfl rfl (pv_indexAddr_l rfl rfl rfl (by omega)) ?_
              refine xp_light (i := 3) rfl (by kernel_rfl) (by kernel_rfl) rfl rfl rfl (lv_load (v := .pointer _) rfl rfl (by exact cell_pt m7_2 (two_ptr hi2))) ?_
              refine xp_pure (i := 4) rfl (by kernel_rfl) (by kernel_rfl) rfl rfl rfl (pv_fieldAddr rfl rfl) ?_
              refine xp_light (i := 5) rfl (by kernel_rfl) (by kernel_rfl) rfl rfl rfl (lv_load (v := .int _ _) rfl rfl (ld_blk m0_0 rfl)) ?_
              refine xp_heavy (i := 6) (by kernel_rfl) ?_
              refine xph_val rfl rfl rfl rfl (hv_call (g := 14) rfl rfl (whereX hq j) rfl) (pd (by kernel_rfl) (pd (by kernel_rfl) pn)) ?_
              rintro v13_6 H13_6 ⟨rfl, rfl⟩
              refine ⟨okn, ?_⟩
              refine xp_pure (i := 7) rfl (by kernel_rfl) (by kernel_rfl) rfl rfl rfl (pv_move (v := .tuple _) rfl rfl) ?_
              refine xp_pure (i := 8) rfl (by kernel_rfl) (by kernel_rfl) rfl rfl rfl (pv_extract (v := .int _ _) rfl rfl rfl) ?_
              refine xp_pure (i := 9) rfl (by kernel_rfl) (by kernel_rfl) rfl rfl rfl (pv_extract (v := .int _ _) rfl rfl rfl) ?_
              refine xp_pure (i := 10) rfl (by kernel_rfl) (by kernel_rfl) rfl rfl rfl (pv_extract (v := .int _ _) rfl rfl rfl) ?_
              refine xp_pure (i := 11) rfl (by kernel_rfl) (by kernel_rfl) rfl rfl rfl (pv_extract (v := .int _ _) rfl rfl rfl) ?_
              refine xp_pure (i := 12) rfl (by kernel_rfl) (by kernel_rfl) rfl rfl rfl (pv_assign (v := .int _ _) rfl rfl) ?_
              refine xp_pure (i := 13) rfl (by kernel_rfl) (by kernel_rfl) rfl rfl rfl (pv_assign (v := .int _ _) rfl rfl) ?_
              refine xp_pure (i := 14) rfl (by kernel_rfl) (by kernel_rfl) rfl rfl rfl (pv_assign (v := .int _ _) rfl rfl) ?_
              refine xp_pure (i := 15) rfl (by kernel_rfl) (by kernel_rfl) rfl rfl rfl (pv_assign (v := .int _ _) rfl rfl) ?_
              refine xp_done (by kernel_rfl) ?_
              refine xthen_normal ?_
              refine xc_seq ?_
              refine xp_start rfl (by repeat (first | with_reducible exact np_fin | with_reducible exact np_ret | with_reducible refine np_then ?_ | with_reducible refine np_block ?_)) (by kernel_rfl) ?_
              refine xp_pure (i := 0) rfl (by kernel_rfl) (by kernel_rfl) rfl rfl rfl (pv_move (v := .slice _ _ _) rfl rfl) ?_
              refine xp_pure (i := 1) rfl (by kernel_rfl) (by kernel_rfl) rfl rfl rfl (pv_move (v := .int _ _) rfl rfl) ?_
              refine xp_pure (i := 2) rfl (by kernel_rfl) (by kernel_rfl) rfl rfl rfl (pv_indexAddr_l rfl rfl rfl (by omega)) ?_
              refine xp_light (i := 3) rfl (by kernel_rfl) (by kernel_rfl) rfl rfl rfl (lv_load (v := .pointer _) rfl rfl (by exact cell_pt m7_2 (two_ptr hi2))) ?_
              refine xp_pure (i := 4) rfl (by kernel_rfl) (by kernel_rfl) rfl rfl rfl (pv_fieldAddr rfl rfl) ?_
              refine xp_light (i := 5) rfl (by kernel_rfl) (by kernel_rfl) rfl rfl rfl (lv_load (v := .int _ _) rfl rfl (ld_blk m0_0 rfl)) ?_
              refine xp_pure (i := 6) rfl (by kernel_rfl) (by kernel_rfl) rfl rfl rfl (pv_fieldAddr rfl rfl) ?_
              refine xp_light (i := 7) rfl (by kernel_rfl) (by kernel_rfl) rfl rfl rfl (lv_load (v := .int _ _) rfl rfl (ld_blk m0_0 rfl)) ?_
              refine xp_heavy (i := 8) (by kernel_rfl) ?_
              refine xph_val rfl rfl rfl rfl (hv_call (g := 15) rfl rfl (freeX hq b o) rfl) (pd (by kernel_rfl) (pd (by kernel_rfl) (pd (by kernel_rfl) pn))) ?_
              rintro v14_8 H14_8 ⟨rfl, rfl⟩
              refine ⟨okn, ?_⟩
              refine xp_pure (i := 9) rfl (by kernel_rfl) (by kernel_rfl) rfl rfl rfl (pv_move (v := .tuple _) rfl rfl) ?_
              refine xp_pure (i := 10) rfl (by kernel_rfl) (by kernel_rfl) rfl rfl rfl (pv_extract (v := .int _ _) rfl rfl rfl) ?_
              refine xp_pure (i := 11) rfl (by kernel_rfl) (by kernel_rfl) rfl rfl rfl (pv_extract (v := .int _ _) rfl rfl rfl) ?_
              refine xp_pure (i := 12) rfl (by kernel_rfl) (by kernel_rfl) rfl rfl rfl (pv_assign (v := .int _ _) rfl rfl) ?_
              refine xp_pure (i := 13) rfl (by kernel_rfl) (by kernel_rfl) rfl rfl rfl (pv_assign (v := .int _ _) rfl rfl) ?_
              refine xp_done (by kernel_rfl) ?_
              refine xthen_normal ?_
              refine xc_seq ?_
              refine xc_region ?_
              refine xl_pure rfl rfl rfl (pv_move (v := .int _ _) rfl rfl) ?_
              refine xl_ndec rfl rfl rfl (pv_neq rfl rfl rfl) (fun h15_1 => ?_) (fun h15_1 => ?_)
              · skip
                refine xl_pure rfl rfl rfl (pv_move (v := .bool _) rfl rfl) ?_
                refine xl_pure rfl rfl rfl (pv_move (v := .int _ _) rfl rfl) ?_
                refine xl_ndec rfl rfl rfl (pv_neq rfl rfl rfl) (fun h15_4 => ?_) (fun h15_4 => ?_)
                · skip
                  refine xl_pure rfl rfl rfl (pv_pick_f (v := .bool _) rfl rfl rfl) ?_
                  refine xl_pure rfl rfl rfl (pv_move (v := .bool _) rfl rfl) ?_
                  refine xl_pure rfl rfl rfl (pv_move (v := .int _ _) rfl rfl) ?_
                  refine xl_ndec rfl rfl rfl (pv_neq rfl rfl rfl) (fun h15_8 => ?_) (fun h15_8 => ?_)
                  · skip
                    refine xl_pure rfl rfl rfl (pv_pick_f (v := .bool _) rfl rfl rfl) ?_
                    refine xl_pure rfl rfl rfl (pv_move (v := .bool _) rfl rfl) ?_
                    refine xl_pure rfl rfl rfl (pv_move (v := .int _ _) rfl rfl) ?_
                    refine xl_ndec rfl rfl rfl (pv_neq rfl rfl rfl) (fun h15_12 => ?_) (fun h15_12 => ?_)
                    · skip
                      refine xl_pure rfl rfl rfl (pv_pick_f (v := .bool _) rfl rfl rfl) ?_
                      refine xl_pure rfl rfl rfl (pv_move (v := .bool _) rfl rfl) ?_
                      refine xl_pure rfl rfl rfl (pv_move (v := .slice _ _ _) rfl rfl) ?_
                      refine xl_pure rfl rfl rfl (pv_move (v := .int _ _) rfl rfl) ?_
                      refine xl_pure rfl rfl rfl (pv_indexAddr_l rfl rfl rfl (by omega)) ?_
                      refine xl_light rfl rfl rfl (lv_load (v := .pointer _) rfl rfl (by exact cell_pt m7_2 (two_ptr hi2))) ?_
                      refine xl_heavy rfl rfl rfl (hv_call (g := 11) rfl rfl (linesX hq) rfl) ?_
                      rintro v15_19 H15_19 ⟨rfl, rfl⟩
                      refine xl_pure rfl rfl rfl (pv_len_l rfl rfl) ?_
                      refine xl_dec rfl rfl rfl (pv_gtr rfl rfl rfl) (fun h15_21 => ?_) (fun h15_21 => ?_)
                      · exact absurd h15_21 (by decide)
                      · skip
                        refine xl_pure rfl rfl rfl (pv_pick_f (v := .bool _) rfl rfl rfl) ?_
                        refine xl_pure rfl rfl rfl (pv_move (v := .bool _) rfl rfl) ?_
                        refine xl_pure rfl rfl rfl (pv_move (v := .slice _ _ _) rfl rfl) ?_
                        refine xl_pure rfl rfl rfl (pv_move (v := .int _ _) rfl rfl) ?_
                        refine xl_pure rfl rfl rfl (pv_indexAddr_l rfl rfl rfl (by omega)) ?_
                        refine xl_light rfl rfl rfl (lv_load (v := .pointer _) rfl rfl (by exact cell_pt m7_2 (two_ptr hi2))) ?_
                        refine xl_heavy rfl rfl rfl (hv_call (g := 16) rfl rfl (cloneX hq) rfl) ?_
                        rintro v15_28 H15_28 ⟨rfl, rfl⟩
                        refine xl_pure rfl rfl rfl (pv_neq_nn rfl rfl rfl) ?_
                        refine xl_pure rfl rfl rfl (pv_pick_f (v := .bool _) rfl rfl rfl) ?_
                        refine xl_nil ?_
                        refine xthen_normal ?_
                        refine xc_cond_f rfl ?_
                        refine xc_skip ?_
                        refine xblock_normal ?_
                        refine xthen_normal ?_
                        refine xc_region ?_
                        refine xl_pure rfl rfl rfl (pv_move (v := .int _ _) rfl rfl) ?_
                        refine xl_pure rfl rfl rfl (pv_add rfl rfl rfl (fit_i64 (by omega))) ?_
                        refine xl_pure rfl rfl rfl (pv_assign (v := .int _ _) rfl rfl) ?_
                        refine xl_nil ?_
                        refine xthen_normal ?_
                        exact ⟨i + 1, ⟨rfl, rfl, rfl, trivial⟩, ⟨by (try simp only); omega, m0_0, m7_1, m7_2, hX⟩, by (try simp only); omega⟩
                    · exact absurd rfl h15_12
                  · exact absurd rfl h15_8
                · exact absurd rfl h15_4
              · exact absurd rfl h15_1
            · skip
              refine xl_nil ?_
              refine xthen_normal ?_
              refine xc_cond_f rfl ?_
              refine xc_exit ?_
              refine xthen_exit ?_
              refine xthen_exit ?_
              refine xblock_same ?_
              refine xthen_normal ?_
              refine xc_seq ?_
              refine xc_region ?_
              refine xl_heavy rfl rfl rfl (hv_call (g := 8) rfl rfl (awake) rfl) ?_
              rintro v17_0 H17_0 ⟨rfl, hE17_0⟩
              have m0_0 := m0_0.ext hE17_0
              have m7_1 := m7_1.ext hE17_0
              have m7_2 := m7_2.ext hE17_0
              have hX := hX.trans hE17_0
              refine xl_pure rfl rfl rfl (pv_assign (v := .bool _) rfl rfl) ?_
              refine xl_nil ?_
              refine xthen_normal ?_
              refine xc_ret ?_
              refine fin_ret (res1 (v := .bool _) rfl rfl) ?_
              exact ⟨rfl, hX⟩
        · exact absurd (by decide) h5_7
      · exact absurd (by decide) h5_2
    · skip
      obtain ⟨G, hG⟩ : ∃ G : Nat → Prop, ∀ i, G i → i < Array.size H3_1 := ⟨fun _ => False, fun i h => h.elim⟩
      refine xl_pure rfl rfl rfl (pv_move (v := .tuple _) rfl rfl) ?_
      refine xl_pure rfl rfl rfl (pv_extract (v := .pointer _) rfl rfl rfl) ?_
      refine xl_pure rfl rfl rfl (pv_extract (v := .int _ _) rfl rfl rfl) ?_
      refine xl_pure rfl rfl rfl (pv_assign (v := .pointer _) rfl rfl) ?_
      refine xl_pure rfl rfl rfl (pv_assign (v := .int _ _) rfl rfl) ?_
      refine xl_nil ?_
      refine xthen_normal ?_
      refine xc_seq ?_
      refine xc_region ?_
      refine xl_pure rfl rfl rfl (pv_move (v := .slice _ _ _) rfl rfl) ?_
      refine xl_heavy rfl rfl rfl (hv_call (g := 12) rfl rfl (dnew (B := H.size) (G := G) (hs.ext hX) (by omega) hG hX.size) rfl) ?_
      rintro v4_1 H4_1 ⟨hv4_1, hE4_1⟩
      have m0_0 := m0_0.ext hE4_1
      have hX := hX.trans hE4_1
      replace hv4_1 := hv4_1.resolve_left (fun h => hno h.1)
      obtain ⟨-, rfl⟩ := hv4_1
      refine xl_pure rfl rfl rfl (pv_move (v := .tuple _) rfl rfl) ?_
      refine xl_pure rfl rfl rfl (pv_extract (v := .agg _) rfl rfl rfl) ?_
      refine xl_pure rfl rfl rfl (pv_extract (v := .int _ _) rfl rfl rfl) ?_
      refine xl_heavy rfl rfl rfl (hv_alloc rfl rfl) ?_
      rintro v4_5 H4_5 ⟨b4_5, rfl, hN4_5⟩
      have gb4_5 := hX.fresh hN4_5
      have nm0_0_4_5 := m0_0.apart hN4_5
      have m0_0 := m0_0.ext hN4_5.ext
      have hX := hX.trans hN4_5.ext
      have m4_5 := hN4_5.blk
      have hbB := gb4_5.le
      refine xl_store rfl rfl (hv_storeA (vs := [.slice _ _ _, .slice _ _ _]) rfl rfl rfl (m4_5) rfl (by rfl) rfl) ?_
      rintro v4_6 H4_6 ⟨hU4_6, hZ4_6⟩
      have m0_0 := m0_0.off hU4_6.but (by first | exact nm0_0_4_5 | exact ⟨m0_0.ne m4_5 rfl⟩ | exact ⟨m0_0.ne m4_5 (by assumption)⟩ | exact ⟨Ne.symm (m4_5.ne m0_0 (by assumption))⟩)
      have hX := hX.upd hU4_6.but gb4_5
      have m4_5 := hU4_6.blk
      try have hb := hb_off hb hG hE4_1.size hN4_5 hU4_6.but
      refine xl_pure rfl rfl rfl (pv_assign (v := .int _ _) rfl rfl) ?_
      refine xl_nil ?_
      refine xthen_normal ?_
      refine xc_seq ?_
      refine xc_seq ?_
      refine xp_start rfl (by repeat (first | with_reducible exact np_fin | with_reducible exact np_ret | with_reducible refine np_then ?_ | with_reducible refine np_block ?_)) (by kernel_rfl) ?_
      refine xp_pure (i := 0) rfl (by kernel_rfl) (by kernel_rfl) rfl rfl rfl (pv_move (v := .int _ _) rfl rfl) ?_
      refine xp_pure (i := 1) rfl (by kernel_rfl) (by kernel_rfl) rfl rfl rfl (pv_move (v := .int _ _) rfl rfl) ?_
      refine xp_ndec (i := 2) rfl (by kernel_rfl) (by kernel_rfl) rfl rfl rfl (pv_neq rfl rfl rfl) (fun h5_2 => ?_) (fun h5_2 => ?_)
      · skip
        refine xp_pure (i := 3) rfl (by kernel_rfl) (by kernel_rfl) rfl rfl rfl (pv_move (v := .bool _) rfl rfl) ?_
        refine xp_pure (i := 4) rfl (by kernel_rfl) (by kernel_rfl) rfl rfl rfl (pv_move (v := .pointer _) rfl rfl) ?_
        refine xp_pure (i := 5) rfl (by kernel_rfl) (by kernel_rfl) rfl rfl rfl (pv_neq_nn rfl rfl rfl) ?_
        refine xp_pure (i := 6) rfl (by kernel_rfl) (by kernel_rfl) rfl rfl rfl (pv_move (v := .int _ _) rfl rfl) ?_
        refine xp_dec (i := 7) rfl (by kernel_rfl) (by kernel_rfl) rfl rfl rfl (pv_eql rfl rfl rfl) (fun h5_7 => ?_) (fun h5_7 => ?_)
        · exact absurd h5_7 (by decide)
        · skip
          refine xp_pure (i := 8) rfl (by kernel_rfl) (by kernel_rfl) rfl rfl rfl (pv_neq_b rfl rfl rfl) ?_
          refine xp_pure (i := 9) rfl (by kernel_rfl) (by kernel_rfl) rfl rfl rfl (pv_pick_f (v := .bool _) rfl rfl rfl) ?_
          refine xp_pure (i := 10) rfl (by kernel_rfl) (by kernel_rfl) rfl rfl rfl (pv_move (v := .bool _) rfl rfl) ?_
          refine xp_pure (i := 11) rfl (by kernel_rfl) (by kernel_rfl) rfl rfl rfl (pv_move (v := .pointer _) rfl rfl) ?_
          refine xp_pure (i := 12) rfl (by kernel_rfl) (by kernel_rfl) rfl rfl rfl (pv_neq_nn rfl rfl rfl) ?_
          refine xp_pure (i := 13) rfl (by kernel_rfl) (by kernel_rfl) rfl rfl rfl (pv_move (v := .bool _) rfl rfl) ?_
          refine xp_skip (i := 14) rfl (by kernel_rfl) (by kernel_rfl) rfl rfl rfl ?_
          refine xp_skip (i := 15) rfl (by kernel_rfl) (by kernel_rfl) rfl rfl rfl ?_
          refine xp_skip (i := 16) rfl (by kernel_rfl) (by kernel_rfl) rfl rfl rfl ?_
          refine xp_skip (i := 17) rfl (by kernel_rfl) (by kernel_rfl) rfl rfl rfl ?_
          refine xp_skip (i := 18) rfl (by kernel_rfl) (by kernel_rfl) rfl rfl rfl ?_
          refine xp_skip (i := 19) rfl (by kernel_rfl) (by kernel_rfl) rfl rfl rfl ?_
          refine xp_pure (i := 20) rfl (by kernel_rfl) (by kernel_rfl) rfl rfl rfl (pv_pick_f (v := .bool _) rfl rfl rfl) ?_
          refine xp_pure (i := 21) rfl (by kernel_rfl) (by kernel_rfl) rfl rfl rfl (pv_pick_f (v := .bool _) rfl rfl rfl) ?_
          refine xp_done (by kernel_rfl) ?_
          refine xthen_normal ?_
          refine xc_cond_f rfl ?_
          refine xc_skip ?_
          refine xthen_normal ?_
          refine xc_seq ?_
          refine xc_region ?_
          refine xl_pure rfl rfl rfl (pv_build_s (cs := [.slice _ _ _, .map _]) rfl rfl rfl) ?_
          refine xl_heavy rfl rfl rfl (hv_box rfl rfl) ?_
          rintro v7_1 H7_1 ⟨b7_1, rfl, hN7_1⟩
          have gb7_1 := hX.fresh hN7_1
          have nm0_0_7_1 := m0_0.apart hN7_1
          have nm4_5_7_1 := m4_5.apart hN7_1
          have m0_0 := m0_0.ext hN7_1.ext
          have m4_5 := m4_5.ext hN7_1.ext
          have hX := hX.trans hN7_1.ext
          have m7_1 := hN7_1.blk
          refine xl_heavy rfl rfl rfl (hv_buildSlice (cs := [.pointer _, .pointer _]) rfl rfl rfl rfl rfl) ?_
          rintro v7_2 H7_2 ⟨b7_2, rfl, hN7_2⟩
          have gb7_2 := hX.fresh hN7_2
          have nm0_0_7_2 := m0_0.apart hN7_2
          have nm4_5_7_2 := m4_5.apart hN7_2
          have nm7_1_7_2 := m7_1.apart hN7_2
          have m0_0 := m0_0.ext hN7_2.ext
          have m4_5 := m4_5.ext hN7_2.ext
          have m7_1 := m7_1.ext hN7_2.ext
          have hX := hX.trans hN7_2.ext
          have m7_2 := hN7_2.blk
          refine xl_pure rfl rfl rfl (pv_assign (v := .slice _ _ _) rfl rfl) ?_
          refine xl_nil ?_
          refine xthen_normal ?_
          refine xc_seq ?_
          refine xc_seq ?_
          refine xc_region ?_
          refine xl_pure rfl rfl rfl (pv_assign (v := .int _ _) rfl rfl) ?_
          refine xl_nil ?_
          refine xthen_normal ?_
          refine xc_block ?_
          refine xc_loop (τ := Nat) (fun t => [(3, .pointer (some ⟨b0_0, 0, none⟩)), (9, .slice (some ⟨b7_2, 0, none⟩) 2 2), (10, .int .i64 (t : Nat))]) (fun t H' => (t ≤ 2) ∧ (Blk H' b0_0 [.int .i64 q, .int .i64 b, .int .i64 o, .int .i64 j] 43) ∧ (Blk H' b7_1 [.slice none 0 0, .map none] 52) ∧ (Blk H' b7_2 [.pointer none, .pointer (some ⟨b7_1, 0, none⟩)] 23) ∧ (Ext H H')) (fun t H' => 2 - t) 0 ?_ ?_ ?_
          · exact ⟨rfl, rfl, rfl, trivial⟩
          · skip
            exact ⟨Nat.zero_le _, m0_0, m7_1, m7_2, hX⟩
          · intro σ
            clear hX m0_0 m4_5 m7_1 m7_2
            rintro i Hl9 ⟨hi, m0_0, m7_1, m7_2, hX⟩
            replace hi : i ≤ 2 := hi
            replace m0_0 : Blk Hl9 b0_0 [.int .i64 q, .int .i64 b, .int .i64 o, .int .i64 j] 43 := m0_0
            replace m7_1 : Blk Hl9 b7_1 [.slice none 0 0, .map none] 52 := m7_1
            replace m7_2 : Blk Hl9 b7_2 [.pointer none, .pointer (some ⟨b7_1, 0, none⟩)] 23 := m7_2
            replace hX : Ext H Hl9 := hX
            show XC _ _ _ (upds σ [(3, .pointer (some ⟨b0_0, 0, none⟩)), (9, .slice (some ⟨b7_2, 0, none⟩) 2 2), (10, .int .i64 (i : Nat))]) _
            refine xc_seq ?_
            refine xc_seq ?_
            refine xc_region ?_
            refine xl_pure rfl rfl rfl (pv_move (v := .int _ _) rfl rfl) ?_
            refine xl_pure rfl rfl rfl (pv_move (v := .slice _ _ _) rfl rfl) ?_
            refine xl_pure rfl rfl rfl (pv_len_l rfl rfl) ?_
            refine xl_dec rfl rfl rfl (pv_lss rfl rfl rfl) (fun h9_3 => ?_) (fun h9_3 => ?_)
            · skip
              refine xl_nil ?_
              refine xthen_normal ?_
              refine xc_cond_t rfl ?_
              refine xc_skip ?_
              refine xthen_normal ?_
              refine xc_seq ?_
              refine xc_block ?_
              refine xc_seq ?_
              have hi2 : i < 2 := by omega
              have hq := nob_two (i := i) m7_1
              refine xp_start rfl (by repeat (first | with_reducible exact np_fin | with_reducible exact np_ret | with_reducible refine np_then ?_ | with_reducible refine np_block ?_)) (by kernel_rfl) ?_
              refine xp_pure (i := 0) rfl (by kernel_rfl) (by kernel_rfl) rfl rfl rfl (pv_move (v := .slice _ _ _) rfl rfl) ?_
              refine xp_pure (i := 1) rfl (by kernel_rfl) (by kernel_rfl) rfl rfl rfl (pv_move (v := .int _ _) rfl rfl) ?_
              refine xp_pure (i := 2) rfl (by kernel_rfl) (by kernel_rfl) rfl rfl rfl (pv_indexAddr_l rfl rfl rfl (by omega)) ?_
              refine xp_light (i := 3) rfl (by kernel_rfl) (by kernel_rfl) rfl rfl rfl (lv_load (v := .pointer _) rfl rfl (by exact cell_pt m7_2 (two_ptr hi2))) ?_
              refine xp_pure (i := 4) rfl (by kernel_rfl) (by kernel_rfl) rfl rfl rfl (pv_fieldAddr rfl rfl) ?_
              refine xp_light (i := 5) rfl (by kernel_rfl) (by kernel_rfl) rfl rfl rfl (lv_load (v := .int _ _) rfl rfl (ld_blk m0_0 rfl)) ?_
              refine xp_pure (i := 6) rfl (by kernel_rfl) (by kernel_rfl) rfl rfl rfl (pv_fieldAddr rfl rfl) ?_
              refine xp_light (i := 7) rfl (by kernel_rfl) (by kernel_rfl) rfl rfl rfl (lv_load (v := .int _ _) rfl rfl (ld_blk m0_0 rfl)) ?_
              refine xp_pure (i := 8) rfl (by kernel_rfl) (by kernel_rfl) rfl rfl rfl (pv_fieldAddr rfl rfl) ?_
              refine xp_light (i := 9) rfl (by kernel_rfl) (by kernel_rfl) rfl rfl rfl (lv_load (v := .int _ _) rfl rfl (ld_blk m0_0 rfl)) ?_
              refine xp_heavy (i := 10) (by kernel_rfl) ?_
              refine xph_val rfl rfl rfl rfl (hv_call (g := 9) rfl rfl (askX hq b o j) rfl) (pd (by kernel_rfl) (pd (by kernel_rfl) (pd (by kernel_rfl) (pd (by kernel_rfl) pn)))) ?_
              rintro v11_10 H11_10 ⟨rfl, rfl⟩
              refine ⟨okn, ?_⟩
              refine xp_pure (i := 11) rfl (by kernel_rfl) (by kernel_rfl) rfl rfl rfl (pv_move (v := .tuple _) rfl rfl) ?_
              refine xp_pure (i := 12) rfl (by kernel_rfl) (by kernel_rfl) rfl rfl rfl (pv_extract (v := .bool _) rfl rfl rfl) ?_
              refine xp_pure (i := 13) rfl (by kernel_rfl) (by kernel_rfl) rfl rfl rfl (pv_extract (v := .int _ _) rfl rfl rfl) ?_
              refine xp_pure (i := 14) rfl (by kernel_rfl) (by kernel_rfl) rfl rfl rfl (pv_assign (v := .bool _) rfl rfl) ?_
              refine xp_pure (i := 15) rfl (by kernel_rfl) (by kernel_rfl) rfl rfl rfl (pv_assign (v := .int _ _) rfl rfl) ?_
              refine xp_done (by kernel_rfl) ?_
              refine xthen_normal ?_
              refine xc_seq ?_
              refine xp_start rfl (by repeat (first | with_reducible exact np_fin | with_reducible exact np_ret | with_reducible refine np_then ?_ | with_reducible refine np_block ?_)) (by kernel_rfl) ?_
              refine xp_pure (i := 0) rfl (by kernel_rfl) (by kernel_rfl) rfl rfl rfl (pv_move (v := .slice _ _ _) rfl rfl) ?_
              refine xp_pure (i := 1) rfl (by kernel_rfl) (by kernel_rfl) rfl rfl rfl (pv_move (v := .int _ _) rfl rfl) ?_
              refine xp_pure (i := 2) rfl (by kernel_rfl) (by kernel_rfl) rfl rfl rfl (pv_indexAddr_l rfl rfl rfl (by omega)) ?_
              refine xp_light (i := 3) rfl (by kernel_rfl) (by kernel_rfl) rfl rfl rfl (lv_load (v := .pointer _) rfl rfl (by exact cell_pt m7_2 (two_ptr hi2))) ?_
              refine xp_pure (i := 4) rfl (by kernel_rfl) (by kernel_rfl) rfl rfl rfl (pv_fieldAddr rfl rfl) ?_
              refine xp_light (i := 5) rfl (by kernel_rfl) (by kernel_rfl) rfl rfl rfl (lv_load (v := .int _ _) rfl rfl (ld_blk m0_0 rfl)) ?_
              refine xp_heavy (i := 6) (by kernel_rfl) ?_
              refine xph_val rfl rfl rfl rfl (hv_call (g := 10) rfl rfl (leaveX hq j) rfl) (pd (by kernel_rfl) (pd (by kernel_rfl) pn)) ?_
              rintro v12_6 H12_6 ⟨rfl, hE12_6⟩
              have m0_0 := m0_0.ext hE12_6
              have m7_1 := m7_1.ext hE12_6
              have m7_2 := m7_2.ext hE12_6
              have hX := hX.trans hE12_6
              refine ⟨okn, ?_⟩
              refine xp_pure (i := 7) rfl (by kernel_rfl) (by kernel_rfl) rfl rfl rfl (pv_move (v := .tuple _) rfl rfl) ?_
              refine xp_pure (i := 8) rfl (by kernel_rfl) (by kernel_rfl) rfl rfl rfl (pv_extract (v := .int _ _) rfl rfl rfl) ?_
              refine xp_pure (i := 9) rfl (by kernel_rfl) (by kernel_rfl) rfl rfl rfl (pv_extract (v := .int _ _) rfl rfl rfl) ?_
              refine xp_pure (i := 10) rfl (by kernel_rfl) (by kernel_rfl) rfl rfl rfl (pv_assign (v := .int _ _) rfl rfl) ?_
              refine xp_pure (i := 11) rfl (by kernel_rfl) (by kernel_rfl) rfl rfl rfl (pv_assign (v := .int _ _) rfl rfl) ?_
              refine xp_done (by kernel_rfl) ?_
              refine xthen_normal ?_
              refine xc_seq ?_
              have hq := nob_two (i := i) m7_1
              refine xp_start rfl (by repeat (first | with_reducible exact np_fin | with_reducible exact np_ret | with_reducible refine np_then ?_ | with_reducible refine np_block ?_)) (by kernel_rfl) ?_
              refine xp_pure (i := 0) rfl (by kernel_rfl) (by kernel_rfl) rfl rfl rfl (pv_move (v := .slice _ _ _) rfl rfl) ?_
              refine xp_pure (i := 1) rfl (by kernel_rfl) (by kernel_rfl) rfl rfl rfl (pv_move (v := .int _ _) rfl rfl) ?_
              refine xp_pure (i := 2) rfl (by kernel_rfl) (by kernel_rfl) rfl rfl rfl (pv_indexAddr_l rfl rfl rfl (by omega)) ?_
              refine xp_light (i := 3) rfl (by kernel_rfl) (by kernel_rfl) rfl rfl rfl (lv_load (v := .pointer _) rfl rfl (by exact cell_pt m7_2 (two_ptr hi2))) ?_
              refine xp_pure (i := 4) rfl (by kernel_rfl) (by kernel_rfl) rfl rfl rfl (pv_fieldAddr rfl rfl) ?_
              refine xp_light (i := 5) rfl (by kernel_rfl) (by kernel_rfl) rfl rfl rfl (lv_load (v := .int _ _) rfl rfl (ld_blk m0_0 rfl)) ?_
              refine xp_heavy (i := 6) (by kernel_rfl) ?_
              refine xph_val rfl rfl rfl rfl (hv_call (g := 14) rfl rfl (whereX hq j) rfl) (pd (by kernel_rfl) (pd (by kernel_rfl) pn)) ?_
              rintro v13_6 H13_6 ⟨rfl, rfl⟩
              refine ⟨okn, ?_⟩
              refine xp_pure (i := 7) rfl (by kernel_rfl) (by kernel_rfl) rfl rfl rfl (pv_move (v := .tuple _) rfl rfl) ?_
              refine xp_pure (i := 8) rfl (by kernel_rfl) (by kernel_rfl) rfl rfl rfl (pv_extract (v := .int _ _) rfl rfl rfl) ?_
              refine xp_pure (i := 9) rfl (by kernel_rfl) (by kernel_rfl) rfl rfl rfl (pv_extract (v := .int _ _) rfl rfl rfl) ?_
              refine xp_pure (i := 10) rfl (by kernel_rfl) (by kernel_rfl) rfl rfl rfl (pv_extract (v := .int _ _) rfl rfl rfl) ?_
              refine xp_pure (i := 11) rfl (by kernel_rfl) (by kernel_rfl) rfl rfl rfl (pv_extract (v := .int _ _) rfl rfl rfl) ?_
              refine xp_pure (i := 12) rfl (by kernel_rfl) (by kernel_rfl) rfl rfl rfl (pv_assign (v := .int _ _) rfl rfl) ?_
              refine xp_pure (i := 13) rfl (by kernel_rfl) (by kernel_rfl) rfl rfl rfl (pv_assign (v := .int _ _) rfl rfl) ?_
              refine xp_pure (i := 14) rfl (by kernel_rfl) (by kernel_rfl) rfl rfl rfl (pv_assign (v := .int _ _) rfl rfl) ?_
              refine xp_pure (i := 15) rfl (by kernel_rfl) (by kernel_rfl) rfl rfl rfl (pv_assign (v := .int _ _) rfl rfl) ?_
              refine xp_done (by kernel_rfl) ?_
              refine xthen_normal ?_
              refine xc_seq ?_
              refine xp_start rfl (by repeat (first | with_reducible exact np_fin | with_reducible exact np_ret | with_reducible refine np_then ?_ | with_reducible refine np_block ?_)) (by kernel_rfl) ?_
              refine xp_pure (i := 0) rfl (by kernel_rfl) (by kernel_rfl) rfl rfl rfl (pv_move (v := .slice _ _ _) rfl rfl) ?_
              refine xp_pure (i := 1) rfl (by kernel_rfl) (by kernel_rfl) rfl rfl rfl (pv_move (v := .int _ _) rfl rfl) ?_
              refine xp_pure (i := 2) rfl (by kernel_rfl) (by kernel_rfl) rfl rfl rfl (pv_indexAddr_l rfl rfl rfl (by omega)) ?_
              refine xp_light (i := 3) rfl (by kernel_rfl) (by kernel_rfl) rfl rfl rfl (lv_load (v := .pointer _) rfl rfl (by exact cell_pt m7_2 (two_ptr hi2))) ?_
              refine xp_pure (i := 4) rfl (by kernel_rfl) (by kernel_rfl) rfl rfl rfl (pv_fieldAddr rfl rfl) ?_
              refine xp_light (i := 5) rfl (by kernel_rfl) (by kernel_rfl) rfl rfl rfl (lv_load (v := .int _ _) rfl rfl (ld_blk m0_0 rfl)) ?_
              refine xp_pure (i := 6) rfl (by kernel_rfl) (by kernel_rfl) rfl rfl rfl (pv_fieldAddr rfl rfl) ?_
              refine xp_light (i := 7) rfl (by kernel_rfl) (by kernel_rfl) rfl rfl rfl (lv_load (v := .int _ _) rfl rfl (ld_blk m0_0 rfl)) ?_
              refine xp_heavy (i := 8) (by kernel_rfl) ?_
              refine xph_val rfl rfl rfl rfl (hv_call (g := 15) rfl rfl (freeX hq b o) rfl) (pd (by kernel_rfl) (pd (by kernel_rfl) (pd (by kernel_rfl) pn))) ?_
              rintro v14_8 H14_8 ⟨rfl, rfl⟩
              refine ⟨okn, ?_⟩
              refine xp_pure (i := 9) rfl (by kernel_rfl) (by kernel_rfl) rfl rfl rfl (pv_move (v := .tuple _) rfl rfl) ?_
              refine xp_pure (i := 10) rfl (by kernel_rfl) (by kernel_rfl) rfl rfl rfl (pv_extract (v := .int _ _) rfl rfl rfl) ?_
              refine xp_pure (i := 11) rfl (by kernel_rfl) (by kernel_rfl) rfl rfl rfl (pv_extract (v := .int _ _) rfl rfl rfl) ?_
              refine xp_pure (i := 12) rfl (by kernel_rfl) (by kernel_rfl) rfl rfl rfl (pv_assign (v := .int _ _) rfl rfl) ?_
              refine xp_pure (i := 13) rfl (by kernel_rfl) (by kernel_rfl) rfl rfl rfl (pv_assign (v := .int _ _) rfl rfl) ?_
              refine xp_done (by kernel_rfl) ?_
              refine xthen_normal ?_
              refine xc_seq ?_
              refine xc_region ?_
              refine xl_pure rfl rfl rfl (pv_move (v := .int _ _) rfl rfl) ?_
              refine xl_ndec rfl rfl rfl (pv_neq rfl rfl rfl) (fun h15_1 => ?_) (fun h15_1 => ?_)
              · skip
                refine xl_pure rfl rfl rfl (pv_move (v := .bool _) rfl rfl) ?_
                refine xl_pure rfl rfl rfl (pv_move (v := .int _ _) rfl rfl) ?_
                refine xl_ndec rfl rfl rfl (pv_neq rfl rfl rfl) (fun h15_4 => ?_) (fun h15_4 => ?_)
                · skip
                  refine xl_pure rfl rfl rfl (pv_pick_f (v := .bool _) rfl rfl rfl) ?_
                  refine xl_pure rfl rfl rfl (pv_move (v := .bool _) rfl rfl) ?_
                  refine xl_pure rfl rfl rfl (pv_move (v := .int _ _) rfl rfl) ?_
                  refine xl_ndec rfl rfl rfl (pv_neq rfl rfl rfl) (fun h15_8 => ?_) (fun h15_8 => ?_)
                  · skip
                    refine xl_pure rfl rfl rfl (pv_pick_f (v := .bool _) rfl rfl rfl) ?_
                    refine xl_pure rfl rfl rfl (pv_move (v := .bool _) rfl rfl) ?_
                    refine xl_pure rfl rfl rfl (pv_move (v := .int _ _) rfl rfl) ?_
                    refine xl_ndec rfl rfl rfl (pv_neq rfl rfl rfl) (fun h15_12 => ?_) (fun h15_12 => ?_)
                    · skip
                      refine xl_pure rfl rfl rfl (pv_pick_f (v := .bool _) rfl rfl rfl) ?_
                      refine xl_pure rfl rfl rfl (pv_move (v := .bool _) rfl rfl) ?_
                      refine xl_pure rfl rfl rfl (pv_move (v := .slice _ _ _) rfl rfl) ?_
                      refine xl_pure rfl rfl rfl (pv_move (v := .int _ _) rfl rfl) ?_
                      refine xl_pure rfl rfl rfl (pv_indexAddr_l rfl rfl rfl (by omega)) ?_
                      refine xl_light rfl rfl rfl (lv_load (v := .pointer _) rfl rfl (by exact cell_pt m7_2 (two_ptr hi2))) ?_
                      refine xl_heavy rfl rfl rfl (hv_call (g := 11) rfl rfl (linesX hq) rfl) ?_
                      rintro v15_19 H15_19 ⟨rfl, rfl⟩
                      refine xl_pure rfl rfl rfl (pv_len_l rfl rfl) ?_
                      refine xl_dec rfl rfl rfl (pv_gtr rfl rfl rfl) (fun h15_21 => ?_) (fun h15_21 => ?_)
                      · exact absurd h15_21 (by decide)
                      · skip
                        refine xl_pure rfl rfl rfl (pv_pick_f (v := .bool _) rfl rfl rfl) ?_
                        refine xl_pure rfl rfl rfl (pv_move (v := .bool _) rfl rfl) ?_
                        refine xl_pure rfl rfl rfl (pv_move (v := .slice _ _ _) rfl rfl) ?_
                        refine xl_pure rfl rfl rfl (pv_move (v := .int _ _) rfl rfl) ?_
                        refine xl_pure rfl rfl rfl (pv_indexAddr_l rfl rfl rfl (by omega)) ?_
                        refine xl_light rfl rfl rfl (lv_load (v := .pointer _) rfl rfl (by exact cell_pt m7_2 (two_ptr hi2))) ?_
                        refine xl_heavy rfl rfl rfl (hv_call (g := 16) rfl rfl (cloneX hq) rfl) ?_
                        rintro v15_28 H15_28 ⟨rfl, rfl⟩
                        refine xl_pure rfl rfl rfl (pv_neq_nn rfl rfl rfl) ?_
                        refine xl_pure rfl rfl rfl (pv_pick_f (v := .bool _) rfl rfl rfl) ?_
                        refine xl_nil ?_
                        refine xthen_normal ?_
                        refine xc_cond_f rfl ?_
                        refine xc_skip ?_
                        refine xblock_normal ?_
                        refine xthen_normal ?_
                        refine xc_region ?_
                        refine xl_pure rfl rfl rfl (pv_move (v := .int _ _) rfl rfl) ?_
                        refine xl_pure rfl rfl rfl (pv_add rfl rfl rfl (fit_i64 (by omega))) ?_
                        refine xl_pure rfl rfl rfl (pv_assign (v := .int _ _) rfl rfl) ?_
                        refine xl_nil ?_
                        refine xthen_normal ?_
                        exact ⟨i + 1, ⟨rfl, rfl, rfl, trivial⟩, ⟨by (try simp only); omega, m0_0, m7_1, m7_2, hX⟩, by (try simp only); omega⟩
                    · exact absurd rfl h15_12
                  · exact absurd rfl h15_8
                · exact absurd rfl h15_4
              · exact absurd rfl h15_1
            · skip
              refine xl_nil ?_
              refine xthen_normal ?_
              refine xc_cond_f rfl ?_
              refine xc_exit ?_
              refine xthen_exit ?_
              refine xthen_exit ?_
              refine xblock_same ?_
              refine xthen_normal ?_
              refine xc_seq ?_
              refine xc_region ?_
              refine xl_heavy rfl rfl rfl (hv_call (g := 8) rfl rfl (awake) rfl) ?_
              rintro v17_0 H17_0 ⟨rfl, hE17_0⟩
              have m0_0 := m0_0.ext hE17_0
              have m7_1 := m7_1.ext hE17_0
              have m7_2 := m7_2.ext hE17_0
              have hX := hX.trans hE17_0
              refine xl_pure rfl rfl rfl (pv_assign (v := .bool _) rfl rfl) ?_
              refine xl_nil ?_
              refine xthen_normal ?_
              refine xc_ret ?_
              refine fin_ret (res1 (v := .bool _) rfl rfl) ?_
              exact ⟨rfl, hX⟩
      · exact absurd (by decide) h5_2
end Go.XG
