/-
  Walks of the seat's functions over the logic XG: each function, what it computes. Printed by a program out of wip/walks.py.
-/
import Derived.Test.YtdpgbnflielagaaI
import Derived.Test.YtdpgbnflielagaaN
import Derived.Test.YtdpgbnflielagaaV
import Derived.Test.YtdpgbnflielagaaDc
import Derived.Test.YtdpgbnflielagaaWa
import Derived.Test.YtdpgbnflielagaaWb
import Derived.Test.YtdpgbnflielagaaWc
import Derived.Test.YtdpgbnflielagaaWd
import Derived.Test.YtdpgbnflielagaaWe
import Derived.Test.YtdpgbnflielagaaWf
import Derived.Test.YtdpgbnflielagaaWg
import Derived.Test.YtdpgbnflielagaaWh
import Derived.Test.YtdpgbnflielagaaWi
import Derived.Test.YtdpgbnflielagaaWj
import Derived.Test.YtdpgbnflielagaaWk
import Derived.Test.YtdpgbnflielagaaWl
import Derived.Test.YtdpgbnflielagaaWm
import Derived.Test.YtdpgbnflielagaaWo
import Derived.Test.YtdpgbnflielagaaWp
import Derived.Test.YtdpgbnflielagaaWq
import Derived.Test.YtdpgbnflielagaaWr
import Derived.Test.YtdpgbnflielagaaWs
import Derived.Test.YtdpgbnflielagaaWt
import Derived.Test.YtdpgbnflielagaaWu
import Derived.Test.YtdpgbnflielagaaWx
import Derived.Test.YtdpgbnflielagaaWy
namespace Go.XG
open Go.Proofs
set_option maxRecDepth 4000
set_option maxHeartbeats 4000000
theorem cloneS {O : Outer} {H : Heap} {bp : Nat} {G : Nat → Prop} {S : List Sd} {f : Fn} (hb : BB H bp G S f) (hI : IV S f) : FnC Try.prog 16 #[.pointer (some ⟨bp, 0, none⟩)] O H (fun v H' => ∃ cp, v = .pointer (some ⟨cp, 0, none⟩) ∧ BB H' cp (fun j => H.size ≤ j ∧ j < H'.size) S f ∧ Ext H H') := by
  obtain ⟨T, rfl, a, c, m, h1, h2, h3, h4, h5, h6, h7⟩ := hb
  refine cloneB h1 h2 h3 h4 h5 h6 h7 (gt_of hI.gs) (fun j r => ?_)
  rw [hI.fm j r, List.length_map]
  constructor
  · rintro ⟨n, g1, g2, g3⟩; rw [gS_map g2] at g3; exact ⟨n, g1, g2, List.mem_append.2 g3⟩
  · rintro ⟨n, g1, g2, g3⟩; refine ⟨n, g1, g2, ?_⟩; rw [gS_map g2]; exact List.mem_append.1 g3

theorem c5 {O : Outer} {H : Heap} {a a2 a3 : Option Addr} {c c2 c3 : Nat} {l A M : List (List Int)} (hs : Rows H a 4 l) (hA : Rows H a2 4 A) (hM : Rows H a3 4 M) :
    FnC Try.prog 5 #[.slice a l.length c, .slice a2 A.length c2, .slice a3 M.length c3] O H (fun v H' => v = .bool true ∧ Ext H H') := by
  obtain ⟨ga, oa, hdA⟩ := hA.at'
  obtain ⟨gm, om, hdM⟩ := hM.at'
  refine fn_enter (A := [.slice a l.length c, .slice a2 A.length c2, .slice a3 M.length c3]) Try.func5 rfl rfl ?_
  have hX := Ext.refl H
  refine xc_seq ?_
  refine xc_region ?_
  refine xl_pure rfl rfl rfl (pv_assign (v := .bool _) rfl rfl) ?_
  refine xl_nil ?_
  refine xthen_normal ?_
  refine xc_seq ?_
  refine xc_seq ?_
  refine xc_region ?_
  refine xl_pure rfl rfl rfl (pv_move (v := .slice _ _ _) rfl rfl) ?_
  refine xl_pure rfl rfl rfl (pv_len_l rfl rfl) ?_
  refine xl_dec rfl rfl rfl (pv_gtr rfl rfl rfl) (fun h1_2 => ?_) (fun h1_2 => ?_)
  · skip
    refine xl_pure rfl rfl rfl (pv_move (v := .bool _) rfl rfl) ?_
    refine xl_skip rfl rfl rfl ?_
    refine xl_skip rfl rfl rfl ?_
    refine xl_skip rfl rfl rfl ?_
    refine xl_pure rfl rfl rfl (pv_pick_t (v := .bool _) rfl rfl rfl) ?_
    refine xl_pure rfl rfl rfl (pv_move (v := .bool _) rfl rfl) ?_
    refine xl_skip rfl rfl rfl ?_
    refine xl_skip rfl rfl rfl ?_
    refine xl_skip rfl rfl rfl ?_
    refine xl_pure rfl rfl rfl (pv_pick_t (v := .bool _) rfl rfl rfl) ?_
    refine xl_nil ?_
    refine xthen_normal ?_
    refine xc_cond_t rfl ?_
    refine xc_seq ?_
    refine xc_region ?_
    refine xl_heavy rfl rfl rfl (hv_call (g := 8) rfl rfl (awake) rfl) ?_
    rintro v2_0 H2_0 ⟨rfl, hE2_0⟩
    have hX := hX.trans hE2_0
    refine xl_pure rfl rfl rfl (pv_assign (v := .bool _) rfl rfl) ?_
    refine xl_nil ?_
    refine xthen_normal ?_
    refine xc_ret ?_
    refine xthen_ret ?_
    refine fin_ret (res1 (v := .bool _) rfl rfl) ?_
    exact ⟨rfl, hX⟩
  · skip
    refine xl_pure rfl rfl rfl (pv_move (v := .bool _) rfl rfl) ?_
    refine xl_pure rfl rfl rfl (pv_move (v := .slice _ _ _) rfl rfl) ?_
    refine xl_pure rfl rfl rfl (pv_len_l rfl rfl) ?_
    refine xl_dec rfl rfl rfl (pv_gtr rfl rfl rfl) (fun h1_6 => ?_) (fun h1_6 => ?_)
    · skip
      refine xl_pure rfl rfl rfl (pv_pick_f (v := .bool _) rfl rfl rfl) ?_
      refine xl_pure rfl rfl rfl (pv_move (v := .bool _) rfl rfl) ?_
      refine xl_skip rfl rfl rfl ?_
      refine xl_skip rfl rfl rfl ?_
      refine xl_skip rfl rfl rfl ?_
      refine xl_pure rfl rfl rfl (pv_pick_t (v := .bool _) rfl rfl rfl) ?_
      refine xl_nil ?_
      refine xthen_normal ?_
      refine xc_cond_t rfl ?_
      refine xc_seq ?_
      refine xc_region ?_
      refine xl_heavy rfl rfl rfl (hv_call (g := 8) rfl rfl (awake) rfl) ?_
      rintro v2_0 H2_0 ⟨rfl, hE2_0⟩
      have hX := hX.trans hE2_0
      refine xl_pure rfl rfl rfl (pv_assign (v := .bool _) rfl rfl) ?_
      refine xl_nil ?_
      refine xthen_normal ?_
      refine xc_ret ?_
      refine xthen_ret ?_
      refine fin_ret (res1 (v := .bool _) rfl rfl) ?_
      exact ⟨rfl, hX⟩
    · skip
      refine xl_pure rfl rfl rfl (pv_pick_f (v := .bool _) rfl rfl rfl) ?_
      refine xl_pure rfl rfl rfl (pv_move (v := .bool _) rfl rfl) ?_
      refine xl_pure rfl rfl rfl (pv_move (v := .slice _ _ _) rfl rfl) ?_
      refine xl_pure rfl rfl rfl (pv_len_l rfl rfl) ?_
      refine xl_dec rfl rfl rfl (pv_gtr rfl rfl rfl) (fun h1_11 => ?_) (fun h1_11 => ?_)
      · skip
        refine xl_pure rfl rfl rfl (pv_pick_f (v := .bool _) rfl rfl rfl) ?_
        refine xl_nil ?_
        refine xthen_normal ?_
        refine xc_cond_t rfl ?_
        refine xc_seq ?_
        refine xc_region ?_
        refine xl_heavy rfl rfl rfl (hv_call (g := 8) rfl rfl (awake) rfl) ?_
        rintro v2_0 H2_0 ⟨rfl, hE2_0⟩
        have hX := hX.trans hE2_0
        refine xl_pure rfl rfl rfl (pv_assign (v := .bool _) rfl rfl) ?_
        refine xl_nil ?_
        refine xthen_normal ?_
        refine xc_ret ?_
        refine xthen_ret ?_
        refine fin_ret (res1 (v := .bool _) rfl rfl) ?_
        exact ⟨rfl, hX⟩
      · skip
        refine xl_pure rfl rfl rfl (pv_pick_f (v := .bool _) rfl rfl rfl) ?_
        refine xl_nil ?_
        refine xthen_normal ?_
        refine xc_cond_f rfl ?_
        refine xc_skip ?_
        refine xthen_normal ?_
        refine xc_seq ?_
        refine xc_region ?_
        refine xl_pure rfl rfl rfl (pv_move (v := .slice _ _ _) rfl rfl) ?_
        refine xl_heavy rfl rfl rfl (hv_call (g := 7) rfl rfl (new_ (hs.ext hX) (by omega)) rfl) ?_
        rintro v3_1 H3_1 ⟨hv3_1, hE3_1⟩
        have hX := hX.trans hE3_1
        rcases hv3_1 with ⟨hok, bp, rfl, hb⟩ | ⟨hno, rfl⟩
        · skip
          obtain ⟨G, hb, hG, hge⟩ : ∃ G, BB _ bp G (newS l) (fun _ => none) ∧ (∀ i, G i → i < _) ∧ ∀ i, G i → H.size ≤ i := ⟨_, hb, fun i h => h.2, fun i h => Nat.le_trans (Nat.le_refl _) h.1⟩
          refine xl_pure rfl rfl rfl (pv_move (v := .tuple _) rfl rfl) ?_
          refine xl_pure rfl rfl rfl (pv_extract (v := .pointer _) rfl rfl rfl) ?_
          refine xl_pure rfl rfl rfl (pv_extract (v := .int _ _) rfl rfl rfl) ?_
          refine xl_pure rfl rfl rfl (pv_assign (v := .pointer _) rfl rfl) ?_
          refine xl_pure rfl rfl rfl (pv_assign (v := .int _ _) rfl rfl) ?_
          refine xl_nil ?_
          refine xthen_normal ?_
          refine xc_seq ?_
          refine xc_region ?_
          refine xl_pure rfl rfl rfl (pv_move (v := .slice _ _ _) rfl rfl) ?_
          refine xl_heavy rfl rfl rfl (hv_call (g := 12) rfl rfl (dnew (B := H.size) (G := G) (hs.ext hX) (by omega) hG hX.size) rfl) ?_
          rintro v4_1 H4_1 ⟨hv4_1, hE4_1⟩
          have hb := hb.ext hE4_1
          have hX := hX.trans hE4_1
          obtain ⟨-, xa, xc, rfl, hx⟩ := hv4_1.resolve_right (fun h => h.1 hok)
          rw [← newS_len] at *
          refine xl_pure rfl rfl rfl (pv_move (v := .tuple _) rfl rfl) ?_
          refine xl_pure rfl rfl rfl (pv_extract (v := .agg _) rfl rfl rfl) ?_
          refine xl_pure rfl rfl rfl (pv_extract (v := .int _ _) rfl rfl rfl) ?_
          refine xl_heavy rfl rfl rfl (hv_alloc rfl rfl) ?_
          rintro v4_5 H4_5 ⟨b4_5, rfl, hN4_5⟩
          have gb4_5 := hX.fresh hN4_5
          have hb := hb.ext hN4_5.ext
          have hx := hx.ext hN4_5.ext
          have hX := hX.trans hN4_5.ext
          have m4_5 := hN4_5.blk
          have hbB := gb4_5.le
          try have hnb0 : ¬ G b4_5 := fun h => by have := hG _ h; have := hE4_1.size; have := hN4_5.ge; omega
          refine xl_store rfl rfl (hv_storeA (vs := [.slice _ _ _, .slice _ _ _]) rfl rfl rfl (m4_5) rfl (by rfl) rfl) ?_
          rintro v4_6 H4_6 ⟨hU4_6, hZ4_6⟩
          have hb := hb.offT m4_5 hU4_6.but (by first | rfl | assumption)
          have hx := hx.offT m4_5 hU4_6.but (by first | rfl | assumption)
          have hX := hX.upd hU4_6.but gb4_5
          have m4_5 := hU4_6.blk
          refine xl_pure rfl rfl rfl (pv_assign (v := .int _ _) rfl rfl) ?_
          refine xl_nil ?_
          refine xthen_normal ?_
          refine xc_seq ?_
          refine xc_seq ?_
          refine xc_region ?_
          refine xl_pure rfl rfl rfl (pv_move (v := .int _ _) rfl rfl) ?_
          refine xl_ndec rfl rfl rfl (pv_neq rfl rfl rfl) (fun h5_1 => ?_) (fun h5_1 => ?_)
          · skip
            refine xl_pure rfl rfl rfl (pv_move (v := .bool _) rfl rfl) ?_
            refine xl_pure rfl rfl rfl (pv_move (v := .pointer _) rfl rfl) ?_
            refine xl_pure rfl rfl rfl (pv_eql_pn rfl rfl rfl) ?_
            refine xl_pure rfl rfl rfl (pv_pick_f (v := .bool _) rfl rfl rfl) ?_
            refine xl_nil ?_
            refine xthen_normal ?_
            refine xc_cond_f rfl ?_
            refine xc_skip ?_
            refine xthen_normal ?_
            refine xc_seq ?_
            refine xc_seq ?_
            refine xc_region ?_
            refine xl_pure rfl rfl rfl (pv_assign (v := .int _ _) rfl rfl) ?_
            refine xl_nil ?_
            refine xthen_normal ?_
            refine xc_block ?_
            refine xc_loop (τ := Nat × List Sd × Fn × (Nat → Prop) × Option Addr × Nat) (fun t => [(1, .slice a2 A.length c2), (2, .slice a3 M.length c3), (7, .pointer (some ⟨bp, 0, none⟩)), (9, .pointer (some ⟨b4_5, 0, none⟩)), (11, .int .i64 (t.1 : Nat))]) (fun t H' => (t.1 ≤ A.length) ∧ (IV t.2.1 t.2.2.1) ∧ (sls l = t.2.1.map Sd.sl) ∧ (∀ y, t.2.2.2.1 y → y < H'.size) ∧ (∀ y, t.2.2.2.1 y → H.size ≤ y) ∧ (¬ t.2.2.2.1 b4_5) ∧ (Blk H' b4_5 [.slice a l.length c, .slice t.2.2.2.2.1 t.2.1.length t.2.2.2.2.2] 45) ∧ (BB H' bp t.2.2.2.1 t.2.1 t.2.2.1) ∧ (LX H.size H' t.2.2.2.1 t.2.2.2.2.1 t.2.2.2.2.2 (t.2.1.map lnS)) ∧ (Ext H H')) (fun t H' => A.length - t.1) (0, newS l, (fun _ => none), G, xa, xc) ?_ ?_ ?_
            · exact ⟨rfl, rfl, rfl, rfl, rfl, trivial⟩
            · skip
              exact ⟨Nat.zero_le _, new_iv hok, newS_sl, fun i h => Nat.lt_of_lt_of_le (hG i h) (by have := hE4_1.size; have := hN4_5.ext.size; have := hU4_6.but.size; omega), hge, hnb0, m4_5, hb, hx, hX⟩
            · intro σ
              clear hX hb hx m4_5
              rintro ⟨i, S, f, G, xa, xc⟩ Hl8 ⟨hi, hI, hsl, hG, hge, hnb, mx, hb, hx, hX⟩
              replace hi : i ≤ A.length := hi
              replace hI : IV S f := hI
              replace hsl : sls l = S.map Sd.sl := hsl
              replace hG : ∀ y, G y → y < Hl8.size := hG
              replace hge : ∀ y, G y → H.size ≤ y := hge
              replace hnb : ¬ G b4_5 := hnb
              replace mx : Blk Hl8 b4_5 [.slice a l.length c, .slice xa S.length xc] 45 := mx
              replace hb : BB Hl8 bp G S f := hb
              replace hx : LX H.size Hl8 G xa xc (S.map lnS) := hx
              replace hX : Ext H Hl8 := hX
              show XC _ _ _ (upds σ [(1, .slice a2 A.length c2), (2, .slice a3 M.length c3), (7, .pointer (some ⟨bp, 0, none⟩)), (9, .pointer (some ⟨b4_5, 0, none⟩)), (11, .int .i64 (i : Nat))]) _
              refine xc_seq ?_
              refine xc_seq ?_
              refine xc_region ?_
              refine xl_pure rfl rfl rfl (pv_move (v := .int _ _) rfl rfl) ?_
              refine xl_pure rfl rfl rfl (pv_move (v := .slice _ _ _) rfl rfl) ?_
              refine xl_pure rfl rfl rfl (pv_len_l rfl rfl) ?_
              refine xl_dec rfl rfl rfl (pv_lss rfl rfl rfl) (fun h8_3 => ?_) (fun h8_3 => ?_)
              · skip
                refine xl_nil ?_
                refine xthen_normal ?_
                refine xc_cond_t rfl ?_
                refine xc_skip ?_
                refine xthen_normal ?_
                refine xc_seq ?_
                refine xc_block ?_
                refine xc_seq ?_
                obtain ⟨q, b, o, j, hr4⟩ := row4 hA.1 (i := i) (by omega)
                refine xp_start rfl (by repeat (first | with_reducible exact np_fin | with_reducible exact np_ret | with_reducible refine np_then ?_ | with_reducible refine np_block ?_)) (by kernel_rfl) ?_
                refine xp_pure (i := 0) rfl (by kernel_rfl) (by kernel_rfl) rfl rfl rfl (pv_move (v := .pointer _) rfl rfl) ?_
                refine xp_light (i := 1) rfl (by kernel_rfl) (by kernel_rfl) rfl rfl rfl (lv_load (v := .agg _) rfl rfl (ld_blk_a mx rfl rfl)) ?_
                refine xp_pure (i := 2) rfl (by kernel_rfl) (by kernel_rfl) rfl rfl rfl (pv_move (v := .slice _ _ _) rfl rfl) ?_
                refine xp_pure (i := 3) rfl (by kernel_rfl) (by kernel_rfl) rfl rfl rfl (pv_move (v := .int _ _) rfl rfl) ?_
                refine xp_pure (i := 4) rfl (by kernel_rfl) (by kernel_rfl) rfl rfl rfl (pv_indexAddr_l rfl (sl_eq (hdA (by omega)).1) rfl (by omega)) ?_
                refine xp_light (i := 5) rfl (by kernel_rfl) (by kernel_rfl) rfl rfl rfl (lv_load (v := .agg _) rfl rfl (by have h := ld_row' ((hdA (by omega)).2.ext hX) hA.1 (by omega) (i := i); rw [hr4] at h; exact h)) ?_
                refine xp_heavy2 (i := 6) (j := 10) (by kernel_rfl) ?_ ?_
                · skip
                  refine xph_val rfl rfl rfl rfl (hv_call (g := 17) rfl rfl (doB hb hI (hs.ext hX) hsl hx hG hX.size (fun kf => hs.ext (hX.keep kf hge)) q b o j) rfl) (pd (by kernel_rfl) (pd (by kernel_rfl) pn)) ?_
                  rintro v10_6 H10_6 ⟨S2, f2, G2, xa2, xc2, rfl, hb2, hx2, hI2, hq2, hg1, hg2, hK10_6⟩
                  have hX1 := hX.size
                  have hsl2 : sls l = S2.map Sd.sl := hsl.trans hq2.symm
                  have hnb2 : ¬ G2 b4_5 := fun h => (hg1 _ h).elim hnb (fun h => by have := mx.lt; omega)
                  have mx := mx.keep hK10_6 hnb
                  have hge2 : ∀ i, G2 i → H.size ≤ i := fun i h => (hg1 i h).elim (hge i) (fun h => Nat.le_trans hX1 h)
                  have hX := hX.keep hK10_6 hge
                  have hb := hb2
                  have hx := hx2
                  refine ⟨okn, ?_⟩
                  refine xp_pure (i := 7) rfl (by kernel_rfl) (by kernel_rfl) rfl rfl rfl (pv_move (v := .tuple _) rfl rfl) ?_
                  refine xp_pure (i := 8) rfl (by kernel_rfl) (by kernel_rfl) rfl rfl rfl (pv_extract (v := .agg _) rfl rfl rfl) ?_
                  refine xp_pure (i := 9) rfl (by kernel_rfl) (by kernel_rfl) rfl rfl rfl (pv_extract (v := .bool _) rfl rfl rfl) ?_
                  refine xp_heavy (i := 10) (by kernel_rfl) ?_
                  refine xph_val rfl rfl rfl rfl (hv_alloc rfl rfl) pn ?_
                  rintro v10_10 H10_10 ⟨b10_10, rfl, hN10_10⟩
                  have gb10_10 := hX.fresh hN10_10
                  have nmx_10_10 := mx.apart hN10_10
                  have hb := hb.ext hN10_10.ext
                  have hx := hx.ext hN10_10.ext
                  have mx := mx.ext hN10_10.ext
                  have hX := hX.trans hN10_10.ext
                  have m10_10 := hN10_10.blk
                  try have hnA : ¬ G b10_10 := fun h => by have := hG _ h; have := hN10_10.ge; omega
                  try have hnb3 : ¬ G2 b10_10 := fun h => by have := hg2 _ h; have := hN10_10.ge; omega
                  have hbb3 : H.size ≤ b10_10 := gb10_10.le
                  try have hG : ∀ y, G y → y < _ := fun y h => Nat.lt_of_lt_of_le (hG y h) hN10_10.ext.size
                  refine ⟨okn, ?_⟩
                  refine xp_heavy (i := 11) (by kernel_rfl) ?_
                  refine xph_store rfl rfl rfl (hv_storeA (vs := [.slice _ _ _, .slice _ _ _]) rfl rfl rfl (m10_10) rfl (by rfl) rfl) pn ?_
                  rintro v10_11 H10_11 ⟨hU10_11, hZ10_11⟩
                  have hb := hb.offT m10_10 hU10_11.but (by first | rfl | assumption)
                  have hx := hx.offT m10_10 hU10_11.but (by first | rfl | assumption)
                  have mx := mx.off hU10_11.but (by first | exact nmx_10_10 | exact ⟨mx.ne m10_10 rfl⟩ | exact ⟨mx.ne m10_10 (by assumption)⟩ | exact ⟨Ne.symm (m10_10.ne mx (by assumption))⟩)
                  have hX := hX.upd hU10_11.but gb10_10
                  have m10_10 := hU10_11.blk
                  refine ⟨okn, ?_⟩
                  refine xp_pure (i := 12) rfl (by kernel_rfl) (by kernel_rfl) rfl rfl rfl (pv_assign (v := .bool _) rfl rfl) ?_
                  refine xp_done (by kernel_rfl) ?_
                  refine xthen_normal ?_
                  refine xc_seq ?_
                  refine xc_region ?_
                  refine xl_light rfl rfl rfl (lv_load (v := .agg _) rfl rfl (ld_blk_a m10_10 rfl rfl)) ?_
                  refine xl_store rfl rfl (hv_storeA (vs := [.slice _ _ _, .slice _ _ _]) rfl rfl rfl (mx) rfl (by rfl) rfl) ?_
                  rintro v11_1 H11_1 ⟨hU11_1, hZ11_1⟩
                  have hb := hb.offT mx hU11_1.but (by first | rfl | assumption)
                  have hx := hx.offT mx hU11_1.but (by first | rfl | assumption)
                  have m10_10 := m10_10.off hU11_1.but (by first | exact nmx_10_10.symm | exact ⟨m10_10.ne mx rfl⟩ | exact ⟨m10_10.ne mx (by assumption)⟩ | exact ⟨Ne.symm (mx.ne m10_10 (by assumption))⟩)
                  have hX := hX.upd hU11_1.but gb4_5
                  have mx := hU11_1.blk
                  refine xl_nil ?_
                  refine xthen_normal ?_
                  refine xc_seq ?_
                  refine xc_region ?_
                  refine xl_pure rfl rfl rfl (pv_move (v := .bool _) rfl rfl) ?_
                  refine xl_pure rfl rfl rfl (pv_not rfl rfl) ?_
                  refine xl_nil ?_
                  refine xthen_normal ?_
                  refine xc_cond_f rfl ?_
                  refine xc_skip ?_
                  refine xblock_normal ?_
                  refine xthen_normal ?_
                  refine xc_region ?_
                  refine xl_pure rfl rfl rfl (pv_move (v := .int _ _) rfl rfl) ?_
                  refine xl_pure rfl rfl rfl (pv_add rfl rfl rfl (fit_i64 (by omega))) ?_
                  refine xl_pure rfl rfl rfl (pv_assign (v := .int _ _) rfl rfl) ?_
                  refine xl_nil ?_
                  refine xthen_normal ?_
                  exact ⟨(i + 1, S2, f2, G2, _, _), ⟨rfl, rfl, rfl, rfl, rfl, trivial⟩, ⟨by (try simp only); omega, hI2, hsl2, fun i h => Nat.lt_of_lt_of_le (hg2 i h) (by first | (have := hU10_11.but.size; have := hU11_1.but.size; have := hN10_10.ext.size; omega) | (have := hU10_11.but.size; have := hU11_1.but.size; omega)), hge2, hnb2, mx, hb, hx, hX⟩, by (try simp only); omega⟩
                · skip
                  refine xph_val rfl rfl rfl rfl (hv_alloc rfl rfl) (pk (by kernel_rfl) (pk (by kernel_rfl) pn)) ?_
                  rintro v10_10 H10_10 ⟨b10_10, rfl, hN10_10⟩
                  have gb10_10 := hX.fresh hN10_10
                  have nmx_10_10 := mx.apart hN10_10
                  have hb := hb.ext hN10_10.ext
                  have hx := hx.ext hN10_10.ext
                  have mx := mx.ext hN10_10.ext
                  have hX := hX.trans hN10_10.ext
                  have m10_10 := hN10_10.blk
                  try have hnA : ¬ G b10_10 := fun h => by have := hG _ h; have := hN10_10.ge; omega
                  try have hnb3 : ¬ G2 b10_10 := fun h => by have := hg2 _ h; have := hN10_10.ge; omega
                  have hbb3 : H.size ≤ b10_10 := gb10_10.le
                  try have hG : ∀ y, G y → y < _ := fun y h => Nat.lt_of_lt_of_le (hG y h) hN10_10.ext.size
                  refine ⟨(okc (lv_load (v := .agg _) rfl rfl (by have h := ld_row' ((hdA (by omega)).2.ext hX) hA.1 (by omega) (i := i); rw [hr4] at h; exact h)) (okc (lv_load (v := .agg _) rfl rfl (ld_blk_a mx rfl rfl)) okn)), ?_⟩
                  refine xp_heavy (i := 6) (by kernel_rfl) ?_
                  refine xph_val rfl rfl rfl rfl (hv_call (g := 17) rfl rfl (doB hb hI (hs.ext hX) hsl hx hG hX.size (fun kf => hs.ext (hX.keep kf hge)) q b o j) rfl) (pd (by kernel_rfl) (pd (by kernel_rfl) pn)) ?_
                  rintro v10_6 H10_6 ⟨S2, f2, G2, xa2, xc2, rfl, hb2, hx2, hI2, hq2, hg1, hg2, hK10_6⟩
                  have hX1 := hX.size
                  have hsl2 : sls l = S2.map Sd.sl := hsl.trans hq2.symm
                  have hnb2 : ¬ G2 b4_5 := fun h => (hg1 _ h).elim hnb (fun h => by have := mx.lt; omega)
                  have hnb3 : ¬ G2 b10_10 := fun h => (hg1 _ h).elim hnA (fun h => by have := m10_10.lt; omega)
                  have m10_10 := m10_10.keep hK10_6 hnA
                  have mx := mx.keep hK10_6 hnb
                  have hge2 : ∀ i, G2 i → H.size ≤ i := fun i h => (hg1 i h).elim (hge i) (fun h => Nat.le_trans hX1 h)
                  have hX := hX.keep hK10_6 hge
                  have hb := hb2
                  have hx := hx2
                  refine ⟨okn, ?_⟩
                  refine xp_pure (i := 7) rfl (by kernel_rfl) (by kernel_rfl) rfl rfl rfl (pv_move (v := .tuple _) rfl rfl) ?_
                  refine xp_pure (i := 8) rfl (by kernel_rfl) (by kernel_rfl) rfl rfl rfl (pv_extract (v := .agg _) rfl rfl rfl) ?_
                  refine xp_pure (i := 9) rfl (by kernel_rfl) (by kernel_rfl) rfl rfl rfl (pv_extract (v := .bool _) rfl rfl rfl) ?_
                  refine xp_heavy (i := 11) (by kernel_rfl) ?_
                  refine xph_store rfl rfl rfl (hv_storeA (vs := [.slice _ _ _, .slice _ _ _]) rfl rfl rfl (m10_10) rfl (by rfl) rfl) pn ?_
                  rintro v10_11 H10_11 ⟨hU10_11, hZ10_11⟩
                  have hb := hb.offT m10_10 hU10_11.but (by first | rfl | assumption)
                  have hx := hx.offT m10_10 hU10_11.but (by first | rfl | assumption)
                  have mx := mx.off hU10_11.but (by first | exact nmx_10_10 | exact ⟨mx.ne m10_10 rfl⟩ | exact ⟨mx.ne m10_10 (by assumption)⟩ | exact ⟨Ne.symm (m10_10.ne mx (by assumption))⟩)
                  have hX := hX.upd hU10_11.but gb10_10
                  have m10_10 := hU10_11.blk
                  refine ⟨okn, ?_⟩
                  refine xp_pure (i := 12) rfl (by kernel_rfl) (by kernel_rfl) rfl rfl rfl (pv_assign (v := .bool _) rfl rfl) ?_
                  refine xp_done (by kernel_rfl) ?_
                  refine xthen_normal ?_
                  refine xc_seq ?_
                  refine xc_region ?_
                  refine xl_light rfl rfl rfl (lv_load (v := .agg _) rfl rfl (ld_blk_a m10_10 rfl rfl)) ?_
                  refine xl_store rfl rfl (hv_storeA (vs := [.slice _ _ _, .slice _ _ _]) rfl rfl rfl (mx) rfl (by rfl) rfl) ?_
                  rintro v11_1 H11_1 ⟨hU11_1, hZ11_1⟩
                  have hb := hb.offT mx hU11_1.but (by first | rfl | assumption)
                  have hx := hx.offT mx hU11_1.but (by first | rfl | assumption)
                  have m10_10 := m10_10.off hU11_1.but (by first | exact nmx_10_10.symm | exact ⟨m10_10.ne mx rfl⟩ | exact ⟨m10_10.ne mx (by assumption)⟩ | exact ⟨Ne.symm (mx.ne m10_10 (by assumption))⟩)
                  have hX := hX.upd hU11_1.but gb4_5
                  have mx := hU11_1.blk
                  refine xl_nil ?_
                  refine xthen_normal ?_
                  refine xc_seq ?_
                  refine xc_region ?_
                  refine xl_pure rfl rfl rfl (pv_move (v := .bool _) rfl rfl) ?_
                  refine xl_pure rfl rfl rfl (pv_not rfl rfl) ?_
                  refine xl_nil ?_
                  refine xthen_normal ?_
                  refine xc_cond_f rfl ?_
                  refine xc_skip ?_
                  refine xblock_normal ?_
                  refine xthen_normal ?_
                  refine xc_region ?_
                  refine xl_pure rfl rfl rfl (pv_move (v := .int _ _) rfl rfl) ?_
                  refine xl_pure rfl rfl rfl (pv_add rfl rfl rfl (fit_i64 (by omega))) ?_
                  refine xl_pure rfl rfl rfl (pv_assign (v := .int _ _) rfl rfl) ?_
                  refine xl_nil ?_
                  refine xthen_normal ?_
                  exact ⟨(i + 1, S2, f2, G2, _, _), ⟨rfl, rfl, rfl, rfl, rfl, trivial⟩, ⟨by (try simp only); omega, hI2, hsl2, fun i h => Nat.lt_of_lt_of_le (hg2 i h) (by first | (have := hU10_11.but.size; have := hU11_1.but.size; have := hN10_10.ext.size; omega) | (have := hU10_11.but.size; have := hU11_1.but.size; omega)), hge2, hnb2, mx, hb, hx, hX⟩, by (try simp only); omega⟩
              · skip
                refine xl_nil ?_
                refine xthen_normal ?_
                refine xc_cond_f rfl ?_
                refine xc_exit ?_
                refine xthen_exit ?_
                refine xthen_exit ?_
                refine xblock_same ?_
                refine xthen_normal ?_
                refine xc_seq ?_
                refine xc_region ?_
                refine xl_pure rfl rfl rfl (pv_move (v := .pointer _) rfl rfl) ?_
                refine xl_heavy rfl rfl rfl (hv_call (g := 16) rfl rfl (cloneS hb hI) rfl) ?_
                rintro v14_1 H14_1 ⟨cp, rfl, hc, hE14_1⟩
                have hXx : XT Hl8 H14_1 := ⟨hE14_1⟩
                obtain ⟨Gc, hc, hGc, hgx⟩ : ∃ Gc, BB H14_1 cp Gc S f ∧ (∀ i, Gc i → i < H14_1.size) ∧ ∀ i, Gc i → Hl8.size ≤ i := ⟨_, hc, fun i h => h.2, fun i h => h.1⟩
                have hgc : ∀ i, Gc i → H.size ≤ i := fun i h => Nat.le_trans hX.size (hgx i h)
                have hy := (hx.new hgx).ext hE14_1
                have hX := hX.trans hE14_1
                refine xl_pure rfl rfl rfl (pv_assign (v := .pointer _) rfl rfl) ?_
                refine xl_nil ?_
                refine xthen_normal ?_
                refine xc_seq ?_
                refine xc_seq ?_
                refine xc_region ?_
                refine xl_pure rfl rfl rfl (pv_move (v := .pointer _) rfl rfl) ?_
                refine xl_pure rfl rfl rfl (pv_eql_pn rfl rfl rfl) ?_
                refine xl_nil ?_
                refine xthen_normal ?_
                refine xc_cond_f rfl ?_
                refine xc_skip ?_
                refine xthen_normal ?_
                refine xc_seq ?_
                refine xc_region ?_
                refine xl_light rfl rfl rfl (lv_load (v := .agg _) rfl rfl (by exact ld_blk_a (mx.ext hXx.x) rfl rfl)) ?_
                refine xl_heavy rfl rfl rfl (hv_alloc rfl rfl) ?_
                rintro v17_1 H17_1 ⟨b17_1, rfl, hN17_1⟩
                have gb17_1 := hX.fresh hN17_1
                have hXx := hXx.ext hN17_1.ext
                have hc := hc.ext hN17_1.ext
                have hy := hy.ext hN17_1.ext
                have hX := hX.trans hN17_1.ext
                have m17_1 := hN17_1.blk
                have hbC := gb17_1.le
                have hbX : Hl8.size ≤ b17_1 := Nat.le_trans hE14_1.size hN17_1.ge
                have hnc0 : ¬ Gc b17_1 := fun h => by have := hGc _ h; have := hN17_1.ge; omega
                refine xl_store rfl rfl (hv_storeA (vs := [.slice _ _ _, .slice _ _ _]) rfl rfl rfl (m17_1) rfl (by rfl) rfl) ?_
                rintro v17_2 H17_2 ⟨hU17_2, hZ17_2⟩
                have hXx := hXx.offT m17_1 hU17_2.but (by first | rfl | assumption)
                have hc := hc.offT m17_1 hU17_2.but (by first | rfl | assumption)
                have hy := hy.offT m17_1 hU17_2.but (by first | rfl | assumption)
                have hX := hX.upd hU17_2.but gb17_1
                have m17_1 := hU17_2.blk
                refine xl_nil ?_
                refine xthen_normal ?_
                refine xc_seq ?_
                refine xc_seq ?_
                have hnc0 : ¬ Gc b17_1 := fun h => by have := hGc _ h; have := hN17_1.ge; omega
                refine xc_region ?_
                refine xl_pure rfl rfl rfl (pv_assign (v := .int _ _) rfl rfl) ?_
                refine xl_nil ?_
                refine xthen_normal ?_
                refine xc_block ?_
                refine xc_loop (τ := Nat × List Sd × Fn × (Nat → Prop) × Option Addr × Nat) (fun t => [(2, .slice a3 M.length c3), (7, .pointer (some ⟨bp, 0, none⟩)), (9, .pointer (some ⟨b4_5, 0, none⟩)), (14, .pointer (some ⟨cp, 0, none⟩)), (15, .pointer (some ⟨b17_1, 0, none⟩)), (16, .int .i64 (t.1 : Nat))]) (fun t H' => (t.1 ≤ M.length) ∧ (IV t.2.1 t.2.2.1) ∧ (sls l = t.2.1.map Sd.sl) ∧ (∀ y, t.2.2.2.1 y → y < H'.size) ∧ (∀ y, t.2.2.2.1 y → H.size ≤ y) ∧ (∀ y, t.2.2.2.1 y → Hl8.size ≤ y) ∧ (¬ t.2.2.2.1 b17_1) ∧ (Blk H' b17_1 [.slice a l.length c, .slice t.2.2.2.2.1 t.2.1.length t.2.2.2.2.2] 45) ∧ (XT Hl8 H') ∧ (BB H' cp t.2.2.2.1 t.2.1 t.2.2.1) ∧ (LX H.size H' t.2.2.2.1 t.2.2.2.2.1 t.2.2.2.2.2 (t.2.1.map lnS)) ∧ (Ext H H')) (fun t H' => M.length - t.1) (0, S, f, Gc, xa, xc) ?_ ?_ ?_
                · exact ⟨rfl, rfl, rfl, rfl, rfl, rfl, trivial⟩
                · skip
                  exact ⟨Nat.zero_le _, hI, hsl, fun i h => Nat.lt_of_lt_of_le (hGc i h) (by have := hN17_1.ext.size; have := hU17_2.but.size; omega), hgc, hgx, hnc0, m17_1, hXx, hc, hy, hX⟩
                · intro σ
                  clear hX hXx hc hy m17_1 hi
                  rintro ⟨i, S3, f3, Gc, ya, yc⟩ Hl19 ⟨hi, hJ, hsm, hGc, hgc, hgx, hnc, my, hXx, hc, hy, hX⟩
                  replace hi : i ≤ M.length := hi
                  replace hJ : IV S3 f3 := hJ
                  replace hsm : sls l = S3.map Sd.sl := hsm
                  replace hGc : ∀ y, Gc y → y < Hl19.size := hGc
                  replace hgc : ∀ y, Gc y → H.size ≤ y := hgc
                  replace hgx : ∀ y, Gc y → Hl8.size ≤ y := hgx
                  replace hnc : ¬ Gc b17_1 := hnc
                  replace my : Blk Hl19 b17_1 [.slice a l.length c, .slice ya S3.length yc] 45 := my
                  replace hXx : XT Hl8 Hl19 := hXx
                  replace hc : BB Hl19 cp Gc S3 f3 := hc
                  replace hy : LX H.size Hl19 Gc ya yc (S3.map lnS) := hy
                  replace hX : Ext H Hl19 := hX
                  show XC _ _ _ (upds σ [(2, .slice a3 M.length c3), (7, .pointer (some ⟨bp, 0, none⟩)), (9, .pointer (some ⟨b4_5, 0, none⟩)), (14, .pointer (some ⟨cp, 0, none⟩)), (15, .pointer (some ⟨b17_1, 0, none⟩)), (16, .int .i64 (i : Nat))]) _
                  refine xc_seq ?_
                  refine xc_seq ?_
                  refine xc_region ?_
                  refine xl_pure rfl rfl rfl (pv_move (v := .int _ _) rfl rfl) ?_
                  refine xl_pure rfl rfl rfl (pv_move (v := .slice _ _ _) rfl rfl) ?_
                  refine xl_pure rfl rfl rfl (pv_len_l rfl rfl) ?_
                  refine xl_dec rfl rfl rfl (pv_lss rfl rfl rfl) (fun h19_3 => ?_) (fun h19_3 => ?_)
                  · skip
                    refine xl_nil ?_
                    refine xthen_normal ?_
                    refine xc_cond_t rfl ?_
                    refine xc_skip ?_
                    refine xthen_normal ?_
                    refine xc_seq ?_
                    refine xc_block ?_
                    refine xc_seq ?_
                    have hXs0 := hXx.x.size
                    obtain ⟨q, b, o, j, hr4⟩ := row4 hM.1 (i := i) (by omega)
                    refine xp_start rfl (by repeat (first | with_reducible exact np_fin | with_reducible exact np_ret | with_reducible refine np_then ?_ | with_reducible refine np_block ?_)) (by kernel_rfl) ?_
                    refine xp_pure (i := 0) rfl (by kernel_rfl) (by kernel_rfl) rfl rfl rfl (pv_move (v := .pointer _) rfl rfl) ?_
                    refine xp_light (i := 1) rfl (by kernel_rfl) (by kernel_rfl) rfl rfl rfl (lv_load (v := .agg _) rfl rfl (ld_blk_a my rfl rfl)) ?_
                    refine xp_pure (i := 2) rfl (by kernel_rfl) (by kernel_rfl) rfl rfl rfl (pv_move (v := .slice _ _ _) rfl rfl) ?_
                    refine xp_pure (i := 3) rfl (by kernel_rfl) (by kernel_rfl) rfl rfl rfl (pv_move (v := .int _ _) rfl rfl) ?_
                    refine xp_pure (i := 4) rfl (by kernel_rfl) (by kernel_rfl) rfl rfl rfl (pv_indexAddr_l rfl (sl_eq (hdM (by omega)).1) rfl (by omega)) ?_
                    refine xp_light (i := 5) rfl (by kernel_rfl) (by kernel_rfl) rfl rfl rfl (lv_load (v := .agg _) rfl rfl (by have h := ld_row' ((hdM (by omega)).2.ext hX) hM.1 (by omega) (i := i); rw [hr4] at h; exact h)) ?_
                    refine xp_heavy2 (i := 6) (j := 10) (by kernel_rfl) ?_ ?_
                    · skip
                      refine xph_val rfl rfl rfl rfl (hv_call (g := 17) rfl rfl (doB hc hJ (hs.ext hX) hsm hy hGc hX.size (fun kf => hs.ext (hX.keep kf hgc)) q b o j) rfl) (pd (by kernel_rfl) (pd (by kernel_rfl) pn)) ?_
                      rintro v21_6 H21_6 ⟨S2, f2, G2, xa2, xc2, rfl, hb2, hx2, hI2, hq2, hg1, hg2, hK21_6⟩
                      have hX1 := hX.size
                      have hsl2 : sls l = S2.map Sd.sl := hsm.trans hq2.symm
                      have hnb2 : ¬ G2 b17_1 := fun h => (hg1 _ h).elim hnc (fun h => by have := my.lt; omega)
                      have my := my.keep hK21_6 hnc
                      have hge2 : ∀ i, G2 i → H.size ≤ i := fun i h => (hg1 i h).elim (hgc i) (fun h => Nat.le_trans hX1 h)
                      have hXs := hXx.x.size
                      have hgx2 : ∀ i, G2 i → Hl8.size ≤ i := fun i h => (hg1 i h).elim (hgx i) (fun h => Nat.le_trans hXs h)
                      have hXx := hXx.keep hK21_6 hgx
                      have hX := hX.keep hK21_6 hgc
                      have hc := hb2
                      have hy := hx2
                      refine ⟨okn, ?_⟩
                      refine xp_pure (i := 7) rfl (by kernel_rfl) (by kernel_rfl) rfl rfl rfl (pv_move (v := .tuple _) rfl rfl) ?_
                      refine xp_pure (i := 8) rfl (by kernel_rfl) (by kernel_rfl) rfl rfl rfl (pv_extract (v := .agg _) rfl rfl rfl) ?_
                      refine xp_pure (i := 9) rfl (by kernel_rfl) (by kernel_rfl) rfl rfl rfl (pv_extract (v := .bool _) rfl rfl rfl) ?_
                      refine xp_heavy (i := 10) (by kernel_rfl) ?_
                      refine xph_val rfl rfl rfl rfl (hv_alloc rfl rfl) pn ?_
                      rintro v21_10 H21_10 ⟨b21_10, rfl, hN21_10⟩
                      have gb21_10 := hX.fresh hN21_10
                      have nmy_21_10 := my.apart hN21_10
                      have hXx := hXx.ext hN21_10.ext
                      have hc := hc.ext hN21_10.ext
                      have hy := hy.ext hN21_10.ext
                      have my := my.ext hN21_10.ext
                      have hX := hX.trans hN21_10.ext
                      have m21_10 := hN21_10.blk
                      try have hnA : ¬ Gc b21_10 := fun h => by have := hGc _ h; have := hN21_10.ge; omega
                      try have hnb3 : ¬ G2 b21_10 := fun h => by have := hg2 _ h; have := hN21_10.ge; omega
                      have hbb3 : H.size ≤ b21_10 := gb21_10.le
                      try have hGc : ∀ y, Gc y → y < _ := fun y h => Nat.lt_of_lt_of_le (hGc y h) hN21_10.ext.size
                      have hbX3 : Hl8.size ≤ b21_10 := by have := hN21_10.ge; first | omega | (have := hK21_6.size; omega)
                      refine ⟨okn, ?_⟩
                      refine xp_heavy (i := 11) (by kernel_rfl) ?_
                      refine xph_store rfl rfl rfl (hv_storeA (vs := [.slice _ _ _, .slice _ _ _]) rfl rfl rfl (m21_10) rfl (by rfl) rfl) pn ?_
                      rintro v21_11 H21_11 ⟨hU21_11, hZ21_11⟩
                      have hXx := hXx.offT m21_10 hU21_11.but (by first | rfl | assumption)
                      have hc := hc.offT m21_10 hU21_11.but (by first | rfl | assumption)
                      have hy := hy.offT m21_10 hU21_11.but (by first | rfl | assumption)
                      have my := my.off hU21_11.but (by first | exact nmy_21_10 | exact ⟨my.ne m21_10 rfl⟩ | exact ⟨my.ne m21_10 (by assumption)⟩ | exact ⟨Ne.symm (m21_10.ne my (by assumption))⟩)
                      have hX := hX.upd hU21_11.but gb21_10
                      have m21_10 := hU21_11.blk
                      refine ⟨okn, ?_⟩
                      refine xp_pure (i := 12) rfl (by kernel_rfl) (by kernel_rfl) rfl rfl rfl (pv_assign (v := .bool _) rfl rfl) ?_
                      refine xp_done (by kernel_rfl) ?_
                      refine xthen_normal ?_
                      refine xc_seq ?_
                      refine xc_region ?_
                      refine xl_light rfl rfl rfl (lv_load (v := .agg _) rfl rfl (ld_blk_a m21_10 rfl rfl)) ?_
                      refine xl_store rfl rfl (hv_storeA (vs := [.slice _ _ _, .slice _ _ _]) rfl rfl rfl (my) rfl (by rfl) rfl) ?_
                      rintro v22_1 H22_1 ⟨hU22_1, hZ22_1⟩
                      have hXx := hXx.offT my hU22_1.but (by first | rfl | assumption)
                      have hc := hc.offT my hU22_1.but (by first | rfl | assumption)
                      have hy := hy.offT my hU22_1.but (by first | rfl | assumption)
                      have m21_10 := m21_10.off hU22_1.but (by first | exact nmy_21_10.symm | exact ⟨m21_10.ne my rfl⟩ | exact ⟨m21_10.ne my (by assumption)⟩ | exact ⟨Ne.symm (my.ne m21_10 (by assumption))⟩)
                      have hX := hX.upd hU22_1.but gb17_1
                      have my := hU22_1.blk
                      refine xl_nil ?_
                      refine xthen_normal ?_
                      refine xc_seq ?_
                      refine xc_region ?_
                      refine xl_pure rfl rfl rfl (pv_move (v := .bool _) rfl rfl) ?_
                      refine xl_pure rfl rfl rfl (pv_not rfl rfl) ?_
                      refine xl_nil ?_
                      refine xthen_normal ?_
                      refine xc_cond_f rfl ?_
                      refine xc_skip ?_
                      refine xblock_normal ?_
                      refine xthen_normal ?_
                      refine xc_region ?_
                      refine xl_pure rfl rfl rfl (pv_move (v := .int _ _) rfl rfl) ?_
                      refine xl_pure rfl rfl rfl (pv_add rfl rfl rfl (fit_i64 (by omega))) ?_
                      refine xl_pure rfl rfl rfl (pv_assign (v := .int _ _) rfl rfl) ?_
                      refine xl_nil ?_
                      refine xthen_normal ?_
                      exact ⟨(i + 1, S2, f2, G2, _, _), ⟨rfl, rfl, rfl, rfl, rfl, rfl, trivial⟩, ⟨by (try simp only); omega, hI2, hsl2, fun i h => Nat.lt_of_lt_of_le (hg2 i h) (by first | (have := hU21_11.but.size; have := hU22_1.but.size; have := hN21_10.ext.size; omega) | (have := hU21_11.but.size; have := hU22_1.but.size; omega)), hge2, hgx2, hnb2, my, hXx, hc, hy, hX⟩, by (try simp only); omega⟩
                    · skip
                      refine xph_val rfl rfl rfl rfl (hv_alloc rfl rfl) (pk (by kernel_rfl) (pk (by kernel_rfl) pn)) ?_
                      rintro v21_10 H21_10 ⟨b21_10, rfl, hN21_10⟩
                      have gb21_10 := hX.fresh hN21_10
                      have nmy_21_10 := my.apart hN21_10
                      have hXx := hXx.ext hN21_10.ext
                      have hc := hc.ext hN21_10.ext
                      have hy := hy.ext hN21_10.ext
                      have my := my.ext hN21_10.ext
                      have hX := hX.trans hN21_10.ext
                      have m21_10 := hN21_10.blk
                      try have hnA : ¬ Gc b21_10 := fun h => by have := hGc _ h; have := hN21_10.ge; omega
                      try have hnb3 : ¬ G2 b21_10 := fun h => by have := hg2 _ h; have := hN21_10.ge; omega
                      have hbb3 : H.size ≤ b21_10 := gb21_10.le
                      try have hGc : ∀ y, Gc y → y < _ := fun y h => Nat.lt_of_lt_of_le (hGc y h) hN21_10.ext.size
                      have hbX3 : Hl8.size ≤ b21_10 := by have := hN21_10.ge; first | omega | (have := hK21_6.size; omega)
                      refine ⟨(okc (lv_load (v := .agg _) rfl rfl (by have h := ld_row' ((hdM (by omega)).2.ext hX) hM.1 (by omega) (i := i); rw [hr4] at h; exact h)) (okc (lv_load (v := .agg _) rfl rfl (ld_blk_a my rfl rfl)) okn)), ?_⟩
                      refine xp_heavy (i := 6) (by kernel_rfl) ?_
                      refine xph_val rfl rfl rfl rfl (hv_call (g := 17) rfl rfl (doB hc hJ (hs.ext hX) hsm hy hGc hX.size (fun kf => hs.ext (hX.keep kf hgc)) q b o j) rfl) (pd (by kernel_rfl) (pd (by kernel_rfl) pn)) ?_
                      rintro v21_6 H21_6 ⟨S2, f2, G2, xa2, xc2, rfl, hb2, hx2, hI2, hq2, hg1, hg2, hK21_6⟩
                      have hX1 := hX.size
                      have hsl2 : sls l = S2.map Sd.sl := hsm.trans hq2.symm
                      have hnb2 : ¬ G2 b17_1 := fun h => (hg1 _ h).elim hnc (fun h => by have := my.lt; omega)
                      have hnb3 : ¬ G2 b21_10 := fun h => (hg1 _ h).elim hnA (fun h => by have := m21_10.lt; omega)
                      have m21_10 := m21_10.keep hK21_6 hnA
                      have my := my.keep hK21_6 hnc
                      have hge2 : ∀ i, G2 i → H.size ≤ i := fun i h => (hg1 i h).elim (hgc i) (fun h => Nat.le_trans hX1 h)
                      have hXs := hXx.x.size
                      have hgx2 : ∀ i, G2 i → Hl8.size ≤ i := fun i h => (hg1 i h).elim (hgx i) (fun h => Nat.le_trans hXs h)
                      have hXx := hXx.keep hK21_6 hgx
                      have hX := hX.keep hK21_6 hgc
                      have hc := hb2
                      have hy := hx2
                      refine ⟨okn, ?_⟩
                      refine xp_pure (i := 7) rfl (by kernel_rfl) (by kernel_rfl) rfl rfl rfl (pv_move (v := .tuple _) rfl rfl) ?_
                      refine xp_pure (i := 8) rfl (by kernel_rfl) (by kernel_rfl) rfl rfl rfl (pv_extract (v := .agg _) rfl rfl rfl) ?_
                      refine xp_pure (i := 9) rfl (by kernel_rfl) (by kernel_rfl) rfl rfl rfl (pv_extract (v := .bool _) rfl rfl rfl) ?_
                      refine xp_heavy (i := 11) (by kernel_rfl) ?_
                      refine xph_store rfl rfl rfl (hv_storeA (vs := [.slice _ _ _, .slice _ _ _]) rfl rfl rfl (m21_10) rfl (by rfl) rfl) pn ?_
                      rintro v21_11 H21_11 ⟨hU21_11, hZ21_11⟩
                      have hXx := hXx.offT m21_10 hU21_11.but (by first | rfl | assumption)
                      have hc := hc.offT m21_10 hU21_11.but (by first | rfl | assumption)
                      have hy := hy.offT m21_10 hU21_11.but (by first | rfl | assumption)
                      have my := my.off hU21_11.but (by first | exact nmy_21_10 | exact ⟨my.ne m21_10 rfl⟩ | exact ⟨my.ne m21_10 (by assumption)⟩ | exact ⟨Ne.symm (m21_10.ne my (by assumption))⟩)
                      have hX := hX.upd hU21_11.but gb21_10
                      have m21_10 := hU21_11.blk
                      refine ⟨okn, ?_⟩
                      refine xp_pure (i := 12) rfl (by kernel_rfl) (by kernel_rfl) rfl rfl rfl (pv_assign (v := .bool _) rfl rfl) ?_
                      refine xp_done (by kernel_rfl) ?_
                      refine xthen_normal ?_
                      refine xc_seq ?_
                      refine xc_region ?_
                      refine xl_light rfl rfl rfl (lv_load (v := .agg _) rfl rfl (ld_blk_a m21_10 rfl rfl)) ?_
                      refine xl_store rfl rfl (hv_storeA (vs := [.slice _ _ _, .slice _ _ _]) rfl rfl rfl (my) rfl (by rfl) rfl) ?_
                      rintro v22_1 H22_1 ⟨hU22_1, hZ22_1⟩
                      have hXx := hXx.offT my hU22_1.but (by first | rfl | assumption)
                      have hc := hc.offT my hU22_1.but (by first | rfl | assumption)
                      have hy := hy.offT my hU22_1.but (by first | rfl | assumption)
                      have m21_10 := m21_10.off hU22_1.but (by first | exact nmy_21_10.symm | exact ⟨m21_10.ne my rfl⟩ | exact ⟨m21_10.ne my (by assumption)⟩ | exact ⟨Ne.symm (my.ne m21_10 (by assumption))⟩)
                      have hX := hX.upd hU22_1.but gb17_1
                      have my := hU22_1.blk
                      refine xl_nil ?_
                      refine xthen_normal ?_
                      refine xc_seq ?_
                      refine xc_region ?_
                      refine xl_pure rfl rfl rfl (pv_move (v := .bool _) rfl rfl) ?_
                      refine xl_pure rfl rfl rfl (pv_not rfl rfl) ?_
                      refine xl_nil ?_
                      refine xthen_normal ?_
                      refine xc_cond_f rfl ?_
                      refine xc_skip ?_
                      refine xblock_normal ?_
                      refine xthen_normal ?_
                      refine xc_region ?_
                      refine xl_pure rfl rfl rfl (pv_move (v := .int _ _) rfl rfl) ?_
                      refine xl_pure rfl rfl rfl (pv_add rfl rfl rfl (fit_i64 (by omega))) ?_
                      refine xl_pure rfl rfl rfl (pv_assign (v := .int _ _) rfl rfl) ?_
                      refine xl_nil ?_
                      refine xthen_normal ?_
                      exact ⟨(i + 1, S2, f2, G2, _, _), ⟨rfl, rfl, rfl, rfl, rfl, rfl, trivial⟩, ⟨by (try simp only); omega, hI2, hsl2, fun i h => Nat.lt_of_lt_of_le (hg2 i h) (by first | (have := hU21_11.but.size; have := hU22_1.but.size; have := hN21_10.ext.size; omega) | (have := hU21_11.but.size; have := hU22_1.but.size; omega)), hge2, hgx2, hnb2, my, hXx, hc, hy, hX⟩, by (try simp only); omega⟩
                  · skip
                    refine xl_nil ?_
                    refine xthen_normal ?_
                    refine xc_cond_f rfl ?_
                    refine xc_exit ?_
                    refine xthen_exit ?_
                    refine xthen_exit ?_
                    refine xblock_same ?_
                    refine xthen_normal ?_
                    refine xc_seq ?_
                    refine xp_start rfl (by repeat (first | with_reducible exact np_fin | with_reducible exact np_ret | with_reducible refine np_then ?_ | with_reducible refine np_block ?_)) (by kernel_rfl) ?_
                    refine xp_pure (i := 0) rfl (by kernel_rfl) (by kernel_rfl) rfl rfl rfl (pv_move (v := .pointer _) rfl rfl) ?_
                    refine xp_pure (i := 2) rfl (by kernel_rfl) (by kernel_rfl) rfl rfl rfl (pv_fieldAddr rfl rfl) ?_
                    refine xp_light (i := 3) rfl (by kernel_rfl) (by kernel_rfl) rfl rfl rfl (lv_load (v := .slice _ _ _) rfl rfl (by exact ld_blk (mx.ext hXx.x) rfl)) ?_
                    refine xp_heavy (i := 1) (by kernel_rfl) ?_
                    refine xph_val rfl rfl rfl rfl (hv_call (g := 11) rfl rfl (linesB (hb.ext hXx.x) hI.gs) rfl) (pk (by kernel_rfl) pn) ?_
                    rintro v25_1 H25_1 ⟨a25_1, c25_1, rfl, hD25_1, hE25_1⟩
                    have hXx := hXx.ext hE25_1
                    have hc := hc.ext hE25_1
                    have hy := hy.ext hE25_1
                    have my := my.ext hE25_1
                    have hX := hX.trans hE25_1
                    refine ⟨(okc (lv_load (v := .slice _ _ _) rfl rfl (by exact ld_blk (mx.ext hXx.x) rfl)) okn), ?_⟩
                    refine xp_heavy (i := 4) (by kernel_rfl) ?_
                    refine xph_val rfl rfl rfl rfl (hv_call (g := 13) rfl rfl (sameL hD25_1 ((hx.ext hXx.x).ld) (by simp) (by simp) (iv_len hI) (iv_small hI)) rfl) (pd (by kernel_rfl) pn) ?_
                    rintro v25_4 H25_4 ⟨r25_4, rfl, hb25_4, rfl⟩
                    obtain rfl : r25_4 = true := hb25_4.2 rfl
                    refine ⟨okn, ?_⟩
                    refine xp_pure (i := 5) rfl (by kernel_rfl) (by kernel_rfl) rfl rfl rfl (pv_move (v := .bool _) rfl rfl) ?_
                    refine xp_pure (i := 6) rfl (by kernel_rfl) (by kernel_rfl) rfl rfl rfl (pv_move (v := .pointer _) rfl rfl) ?_
                    refine xp_pure (i := 8) rfl (by kernel_rfl) (by kernel_rfl) rfl rfl rfl (pv_fieldAddr rfl rfl) ?_
                    refine xp_light (i := 9) rfl (by kernel_rfl) (by kernel_rfl) rfl rfl rfl (lv_load (v := .slice _ _ _) rfl rfl (ld_blk my rfl)) ?_
                    refine xp_heavy (i := 7) (by kernel_rfl) ?_
                    refine xph_val rfl rfl rfl rfl (hv_call (g := 11) rfl rfl (linesB (hc) hJ.gs) rfl) (pk (by kernel_rfl) pn) ?_
                    rintro v25_7 H25_7 ⟨a25_7, c25_7, rfl, hD25_7, hE25_7⟩
                    have hXx := hXx.ext hE25_7
                    have hc := hc.ext hE25_7
                    have hy := hy.ext hE25_7
                    have my := my.ext hE25_7
                    have hX := hX.trans hE25_7
                    refine ⟨(okc (lv_load (v := .slice _ _ _) rfl rfl (ld_blk my rfl)) okn), ?_⟩
                    refine xp_heavy (i := 10) (by kernel_rfl) ?_
                    refine xph_val rfl rfl rfl rfl (hv_call (g := 13) rfl rfl (sameL hD25_7 (hy.ld) (by simp) (by simp) (iv_len hJ) (iv_small hJ)) rfl) (pd (by kernel_rfl) pn) ?_
                    rintro v25_10 H25_10 ⟨r25_10, rfl, hb25_10, rfl⟩
                    obtain rfl : r25_10 = true := hb25_10.2 rfl
                    refine ⟨okn, ?_⟩
                    refine xp_pure (i := 11) rfl (by kernel_rfl) (by kernel_rfl) rfl rfl rfl (pv_pick_t (v := .bool _) rfl rfl rfl) ?_
                    refine xp_pure (i := 12) rfl (by kernel_rfl) (by kernel_rfl) rfl rfl rfl (pv_move (v := .bool _) rfl rfl) ?_
                    refine xp_heavy (i := 13) (by kernel_rfl) ?_
                    refine xph_val rfl rfl rfl rfl (hv_call (g := 8) rfl rfl (awake) rfl) pn ?_
                    rintro v25_13 H25_13 ⟨rfl, hE25_13⟩
                    have hXx := hXx.ext hE25_13
                    have hc := hc.ext hE25_13
                    have hy := hy.ext hE25_13
                    have my := my.ext hE25_13
                    have hX := hX.trans hE25_13
                    refine ⟨okn, ?_⟩
                    refine xp_pure (i := 14) rfl (by kernel_rfl) (by kernel_rfl) rfl rfl rfl (pv_pick_t (v := .bool _) rfl rfl rfl) ?_
                    refine xp_pure (i := 15) rfl (by kernel_rfl) (by kernel_rfl) rfl rfl rfl (pv_assign (v := .bool _) rfl rfl) ?_
                    refine xp_done (by kernel_rfl) ?_
                    refine xthen_normal ?_
                    refine xc_ret ?_
                    refine fin_ret (res1 (v := .bool _) rfl rfl) ?_
                    exact ⟨rfl, hX⟩
          · exact absurd (by decide) h5_1
        · skip
          obtain ⟨G, hG⟩ : ∃ G : Nat → Prop, ∀ i, G i → i < Array.size H3_1 := ⟨fun _ => False, fun i h => h.elim⟩
          refine xl_pure rfl rfl rfl (pv_move (v := .tuple _) rfl rfl) ?_
          refine xl_pure rfl rfl rfl (pv_extract (v := .pointer _) rfl rfl rfl) ?_
          refine xl_pure rfl rfl rfl (pv_extract (v := .int _ _) rfl rfl rfl) ?_
          refine xl_pure rfl rfl rfl (pv_assign (v := .pointer _) rfl rfl) ?_
          refine xl_pure rfl rfl rfl (pv_assign (v := .int _ _) rfl rfl) ?_
          refine xl_nil ?_
          refine xthen_normal ?_
          refine xc_seq ?_
          refine xc_region ?_
          refine xl_pure rfl rfl rfl (pv_move (v := .slice _ _ _) rfl rfl) ?_
          refine xl_heavy rfl rfl rfl (hv_call (g := 12) rfl rfl (dnew (B := H.size) (G := G) (hs.ext hX) (by omega) hG hX.size) rfl) ?_
          rintro v4_1 H4_1 ⟨hv4_1, hE4_1⟩
          have hX := hX.trans hE4_1
          replace hv4_1 := hv4_1.resolve_left (fun h => hno h.1)
          obtain ⟨-, rfl⟩ := hv4_1
          refine xl_pure rfl rfl rfl (pv_move (v := .tuple _) rfl rfl) ?_
          refine xl_pure rfl rfl rfl (pv_extract (v := .agg _) rfl rfl rfl) ?_
          refine xl_pure rfl rfl rfl (pv_extract (v := .int _ _) rfl rfl rfl) ?_
          refine xl_heavy rfl rfl rfl (hv_alloc rfl rfl) ?_
          rintro v4_5 H4_5 ⟨b4_5, rfl, hN4_5⟩
          have gb4_5 := hX.fresh hN4_5
          have hX := hX.trans hN4_5.ext
          have m4_5 := hN4_5.blk
          have hbB := gb4_5.le
          try have hnb0 : ¬ G b4_5 := fun h => by have := hG _ h; have := hE4_1.size; have := hN4_5.ge; omega
          refine xl_store rfl rfl (hv_storeA (vs := [.slice _ _ _, .slice _ _ _]) rfl rfl rfl (m4_5) rfl (by rfl) rfl) ?_
          rintro v4_6 H4_6 ⟨hU4_6, hZ4_6⟩
          have hX := hX.upd hU4_6.but gb4_5
          have m4_5 := hU4_6.blk
          refine xl_pure rfl rfl rfl (pv_assign (v := .int _ _) rfl rfl) ?_
          refine xl_nil ?_
          refine xthen_normal ?_
          refine xc_seq ?_
          refine xc_seq ?_
          refine xc_region ?_
          refine xl_pure rfl rfl rfl (pv_move (v := .int _ _) rfl rfl) ?_
          refine xl_ndec rfl rfl rfl (pv_neq rfl rfl rfl) (fun h5_1 => ?_) (fun h5_1 => ?_)
          · exact absurd h5_1 (by decide)
          · skip
            refine xl_pure rfl rfl rfl (pv_move (v := .bool _) rfl rfl) ?_
            refine xl_skip rfl rfl rfl ?_
            refine xl_skip rfl rfl rfl ?_
            refine xl_pure rfl rfl rfl (pv_pick_t (v := .bool _) rfl rfl rfl) ?_
            refine xl_nil ?_
            refine xthen_normal ?_
            refine xc_cond_t rfl ?_
            refine xc_seq ?_
            refine xc_region ?_
            refine xl_pure rfl rfl rfl (pv_move (v := .int _ _) rfl rfl) ?_
            refine xl_pure rfl rfl rfl (pv_move (v := .int _ _) rfl rfl) ?_
            refine xl_dec rfl rfl rfl (pv_eql rfl rfl rfl) (fun h6_2 => ?_) (fun h6_2 => ?_)
            · skip
              refine xl_pure rfl rfl rfl (pv_move (v := .bool _) rfl rfl) ?_
              refine xl_pure rfl rfl rfl (pv_move (v := .int _ _) rfl rfl) ?_
              refine xl_ndec rfl rfl rfl (pv_neq rfl rfl rfl) (fun h6_5 => ?_) (fun h6_5 => ?_)
              · exact absurd h6_5 (by decide)
              · skip
                refine xl_pure rfl rfl rfl (pv_pick_t (v := .bool _) rfl rfl rfl) ?_
                refine xl_pure rfl rfl rfl (pv_move (v := .bool _) rfl rfl) ?_
                refine xl_heavy rfl rfl rfl (hv_call (g := 8) rfl rfl (awake) rfl) ?_
                rintro v6_8 H6_8 ⟨rfl, hE6_8⟩
                have m4_5 := m4_5.ext hE6_8
                have hX := hX.trans hE6_8
                refine xl_pure rfl rfl rfl (pv_pick_t (v := .bool _) rfl rfl rfl) ?_
                refine xl_pure rfl rfl rfl (pv_assign (v := .bool _) rfl rfl) ?_
                refine xl_nil ?_
                refine xthen_normal ?_
                refine xc_ret ?_
                refine xthen_ret ?_
                refine fin_ret (res1 (v := .bool _) rfl rfl) ?_
                exact ⟨rfl, hX⟩
            · exact absurd (by decide) h6_2
end Go.XG
