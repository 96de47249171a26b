/-
  Walks of the seat's functions over the logic XG: each function, what it computes. Printed by a program out of wip/walks.py.
-/
import Derived.Test.YtdpgbnflielagaaI
import Derived.Test.YtdpgbnflielagaaN
import Derived.Test.YtdpgbnflielagaaDe
import Derived.Test.YtdpgbnflielagaaWa
import Derived.Test.YtdpgbnflielagaaWb
import Derived.Test.YtdpgbnflielagaaWc
import Derived.Test.YtdpgbnflielagaaWd
import Derived.Test.YtdpgbnflielagaaWe
import Derived.Test.YtdpgbnflielagaaWf
import Derived.Test.YtdpgbnflielagaaWg
import Derived.Test.YtdpgbnflielagaaWh
import Derived.Test.YtdpgbnflielagaaWi
import Derived.Test.YtdpgbnflielagaaWj
import Derived.Test.YtdpgbnflielagaaWk
import Derived.Test.YtdpgbnflielagaaWl
import Derived.Test.YtdpgbnflielagaaWm
import Derived.Test.YtdpgbnflielagaaWo
import Derived.Test.YtdpgbnflielagaaWp
import Derived.Test.YtdpgbnflielagaaWq
import Derived.Test.YtdpgbnflielagaaWr
import Derived.Test.YtdpgbnflielagaaWs
import Derived.Test.YtdpgbnflielagaaWt
import Derived.Test.YtdpgbnflielagaaWu
import Derived.Test.YtdpgbnflielagaaWx
import Derived.Test.YtdpgbnflielagaaWy
import Derived.Test.YtdpgbnflielagaaZb
namespace Go.XG
open Go.Proofs
set_option maxRecDepth 4000
set_option maxHeartbeats 4000000
theorem c6 {O : Outer} {H : Heap} {a xa0 a3 : Option Addr} {c xc0 c3 : Nat} {l A : List (List Int)} {E : List Se} (hs : Rows H a 4 l) (hE : LE H.size H (fun _ => False) xa0 E) (hA : Rows H a3 4 A) :
    FnC Try.prog 6 #[.slice a l.length c, .slice xa0 E.length xc0, .slice a3 A.length c3] O H (fun v H' => v = .bool true ∧ Ext H H') := by
  obtain ⟨ga, oa, hdA⟩ := hA.at'
  refine fn_enter (A := [.slice a l.length c, .slice xa0 E.length xc0, .slice a3 A.length c3]) Try.func6 rfl rfl ?_
  have hX := Ext.refl H
  refine xc_seq ?_
  refine xc_region ?_
  refine xl_pure rfl rfl rfl (pv_assign (v := .bool _) rfl rfl) ?_
  refine xl_nil ?_
  refine xthen_normal ?_
  refine xc_seq ?_
  refine xc_seq ?_
  refine xc_region ?_
  refine xl_pure rfl rfl rfl (pv_move (v := .slice _ _ _) rfl rfl) ?_
  refine xl_pure rfl rfl rfl (pv_move (v := .slice _ _ _) rfl rfl) ?_
  refine xl_heavy rfl rfl rfl (hv_call (g := 18) rfl rfl (few (c := c) (xc := xc0) (l := l) hE) rfl) ?_
  rintro v1_2 H1_2 ⟨hv1_2, rfl⟩
  rcases hv1_2 with ⟨hl12, hE24, hfew, rfl⟩ | rfl
  · skip
    refine xl_pure rfl rfl rfl (pv_not rfl rfl) ?_
    refine xl_pure rfl rfl rfl (pv_move (v := .bool _) rfl rfl) ?_
    refine xl_pure rfl rfl rfl (pv_move (v := .slice _ _ _) rfl rfl) ?_
    refine xl_pure rfl rfl rfl (pv_len_l rfl rfl) ?_
    refine xl_dec rfl rfl rfl (pv_gtr rfl rfl rfl) (fun h1_7 => ?_) (fun h1_7 => ?_)
    · skip
      refine xl_pure rfl rfl rfl (pv_pick_f (v := .bool _) rfl rfl rfl) ?_
      refine xl_nil ?_
      refine xthen_normal ?_
      refine xc_cond_t rfl ?_
      refine xc_seq ?_
      refine xc_region ?_
      refine xl_heavy rfl rfl rfl (hv_call (g := 8) rfl rfl (awake) rfl) ?_
      rintro v2_0 H2_0 ⟨rfl, hE2_0⟩
      have hX := hX.trans hE2_0
      refine xl_pure rfl rfl rfl (pv_assign (v := .bool _) rfl rfl) ?_
      refine xl_nil ?_
      refine xthen_normal ?_
      refine xc_ret ?_
      refine xthen_ret ?_
      refine fin_ret (res1 (v := .bool _) rfl rfl) ?_
      exact ⟨rfl, hX⟩
    · skip
      refine xl_pure rfl rfl rfl (pv_pick_f (v := .bool _) rfl rfl rfl) ?_
      refine xl_nil ?_
      refine xthen_normal ?_
      refine xc_cond_f rfl ?_
      refine xc_skip ?_
      refine xthen_normal ?_
      refine xc_seq ?_
      refine xc_region ?_
      refine xl_pure rfl rfl rfl (pv_move (v := .slice _ _ _) rfl rfl) ?_
      refine xl_pure rfl rfl rfl (pv_move (v := .slice _ _ _) rfl rfl) ?_
      refine xl_heavy rfl rfl rfl (hv_call (g := 19) rfl rfl (load (hs.ext hX) (by omega) (hE.ext hX) (fun e he => few_all hfew he)) rfl) ?_
      rintro v3_2 H3_2 ⟨hv3_2, hE3_2⟩
      have hX := hX.trans hE3_2
      rcases hv3_2 with ⟨hld, bp, f, rfl, hb, hf⟩ | ⟨hno, rfl⟩
      · skip
        obtain ⟨G, hb, hG, hge⟩ : ∃ G, BB _ bp G (loS l E) f ∧ (∀ i, G i → i < _) ∧ ∀ i, G i → H.size ≤ i := ⟨_, hb, fun i h => h.2, fun i h => h.1⟩
        have hI := ld_iv hld hf
        have hsl := loS_sl (E := E) hld.len
        obtain ⟨S, hSe⟩ : ∃ S, S = loS l E := ⟨_, rfl⟩
        have hSl : (loS l E).map lnS = E.map lnP := loS_ln
        rw [← hSe] at hb hI hsl hSl
        have hlenS : S.length = E.length := by rw [hSe, loS_len]
        refine xl_pure rfl rfl rfl (pv_move (v := .tuple _) rfl rfl) ?_
        refine xl_pure rfl rfl rfl (pv_extract (v := .pointer _) rfl rfl rfl) ?_
        refine xl_pure rfl rfl rfl (pv_extract (v := .int _ _) rfl rfl rfl) ?_
        refine xl_pure rfl rfl rfl (pv_assign (v := .pointer _) rfl rfl) ?_
        refine xl_pure rfl rfl rfl (pv_assign (v := .int _ _) rfl rfl) ?_
        refine xl_nil ?_
        refine xthen_normal ?_
        refine xc_seq ?_
        refine xc_region ?_
        refine xl_pure rfl rfl rfl (pv_move (v := .slice _ _ _) rfl rfl) ?_
        refine xl_pure rfl rfl rfl (pv_move (v := .slice _ _ _) rfl rfl) ?_
        refine xl_heavy rfl rfl rfl (hv_call (g := 20) rfl rfl (dload (B := H.size) (G := G) (hs.ext hX) (by omega) ((hE.new hge).ext hX) (by omega) (fun e he => few_all hfew he) hG) rfl) ?_
        rintro v4_2 H4_2 ⟨hv4_2, hE4_2⟩
        have hb := hb.ext hE4_2
        have hX := hX.trans hE4_2
        obtain ⟨-, xa, xc, rfl, hx⟩ := hv4_2.resolve_right (fun h => h.1 hld)
        rw [← hSl] at hx
        rw [← hlenS] at hv4_2 ⊢
        refine xl_pure rfl rfl rfl (pv_move (v := .tuple _) rfl rfl) ?_
        refine xl_pure rfl rfl rfl (pv_extract (v := .agg _) rfl rfl rfl) ?_
        refine xl_pure rfl rfl rfl (pv_extract (v := .int _ _) rfl rfl rfl) ?_
        refine xl_heavy rfl rfl rfl (hv_alloc rfl rfl) ?_
        rintro v4_6 H4_6 ⟨b4_6, rfl, hN4_6⟩
        have gb4_6 := hX.fresh hN4_6
        have hb := hb.ext hN4_6.ext
        have hx := hx.ext hN4_6.ext
        have hX := hX.trans hN4_6.ext
        have m4_6 := hN4_6.blk
        try have hGf : ∀ y, G y → y < _ := fun y h => Nat.lt_of_lt_of_le (hG y h) (Nat.le_trans hE4_2.size hN4_6.ext.size)
        have hbB := gb4_6.le
        try have hnb0 : ¬ G b4_6 := fun h => by have := hG _ h; have := hE4_2.size; have := hN4_6.ge; omega
        refine xl_store rfl rfl (hv_storeA (vs := [.slice _ _ _, .slice _ _ _]) rfl rfl rfl (m4_6) rfl (by rfl) rfl) ?_
        rintro v4_7 H4_7 ⟨hU4_7, hZ4_7⟩
        have hb := hb.offT m4_6 hU4_7.but (by first | rfl | assumption)
        have hx := hx.offT m4_6 hU4_7.but (by first | rfl | assumption)
        have hX := hX.upd hU4_7.but gb4_6
        have m4_6 := hU4_7.blk
        try have hGf : ∀ y, G y → y < _ := fun y h => Nat.lt_of_lt_of_le (hGf y h) hU4_7.but.size
        refine xl_pure rfl rfl rfl (pv_assign (v := .int _ _) rfl rfl) ?_
        refine xl_nil ?_
        refine xthen_normal ?_
        refine xc_seq ?_
        refine xc_seq ?_
        refine xc_region ?_
        refine xl_pure rfl rfl rfl (pv_move (v := .slice _ _ _) rfl rfl) ?_
        refine xl_pure rfl rfl rfl (pv_len_l rfl rfl) ?_
        refine xl_dec rfl rfl rfl (pv_eql rfl rfl rfl) (fun h5_2 => ?_) (fun h5_2 => ?_)
        · skip
          refine xl_nil ?_
          refine xthen_normal ?_
          refine xc_cond_t rfl ?_
          refine xc_seq ?_
          have hXz := hX.size
          have m4_z := m4_6.lt
          refine xc_region ?_
          refine xl_pure rfl rfl rfl (pv_move (v := .slice _ _ _) rfl rfl) ?_
          refine xl_heavy rfl rfl rfl (hv_call (g := 7) rfl rfl (new_ (hs.ext hX) (by omega)) rfl) ?_
          rintro v6_1 H6_1 ⟨hv6_1, hE6_1⟩
          have hb := hb.ext hE6_1
          have hx := hx.ext hE6_1
          have m4_6 := m4_6.ext hE6_1
          have hX := hX.trans hE6_1
          rcases hv6_1 with ⟨hok, bp, rfl, hb⟩ | ⟨hno2, rfl⟩
          · skip
            obtain ⟨G, hb, hG, hge, hnb0⟩ : ∃ G, BB _ bp G (newS l) (fun _ => none) ∧ (∀ i, G i → i < _) ∧ (∀ i, G i → H.size ≤ i) ∧ ¬ G b4_6 := ⟨_, hb, fun i h => h.2, fun i h => Nat.le_trans hXz h.1, fun h => by have := h.1; have := m4_z; omega⟩
            have hI := new_iv hok
            have hsl := newS_sl (l := l)
            obtain ⟨S, hSe⟩ : ∃ S, S = newS l := ⟨_, rfl⟩
            rw [← hSe] at hb hI hsl
            obtain ⟨f, hfe⟩ : ∃ f : Fn, f = (fun _ => none) := ⟨_, rfl⟩
            rw [← hfe] at hb hI
            refine xl_pure rfl rfl rfl (pv_move (v := .tuple _) rfl rfl) ?_
            refine xl_pure rfl rfl rfl (pv_extract (v := .pointer _) rfl rfl rfl) ?_
            refine xl_pure rfl rfl rfl (pv_extract (v := .int _ _) rfl rfl rfl) ?_
            refine xl_pure rfl rfl rfl (pv_assign (v := .pointer _) rfl rfl) ?_
            refine xl_pure rfl rfl rfl (pv_assign (v := .int _ _) rfl rfl) ?_
            refine xl_nil ?_
            refine xthen_normal ?_
            refine xc_region ?_
            refine xl_pure rfl rfl rfl (pv_move (v := .slice _ _ _) rfl rfl) ?_
            refine xl_heavy rfl rfl rfl (hv_call (g := 12) rfl rfl (dnew (B := H.size) (G := G) (hs.ext hX) (by omega) hG hX.size) rfl) ?_
            rintro v7_1 H7_1 ⟨hv7_1, hE7_1⟩
            have hb := hb.ext hE7_1
            have hx := hx.ext hE7_1
            have m4_6 := m4_6.ext hE7_1
            have hX := hX.trans hE7_1
            obtain ⟨-, xa, xc, rfl, hx⟩ := hv7_1.resolve_right (fun h => h.1 hok)
            rw [← newS_len, ← hSe] at *
            refine xl_pure rfl rfl rfl (pv_move (v := .tuple _) rfl rfl) ?_
            refine xl_pure rfl rfl rfl (pv_extract (v := .agg _) rfl rfl rfl) ?_
            refine xl_pure rfl rfl rfl (pv_extract (v := .int _ _) rfl rfl rfl) ?_
            refine xl_store rfl rfl (hv_storeA (vs := [.slice _ _ _, .slice _ _ _]) rfl rfl rfl (m4_6) rfl (by rfl) rfl) ?_
            rintro v7_5 H7_5 ⟨hU7_5, hZ7_5⟩
            have hb := hb.offT m4_6 hU7_5.but (by first | rfl | assumption)
            have hx := hx.offT m4_6 hU7_5.but (by first | rfl | assumption)
            have hX := hX.upd hU7_5.but gb4_6
            have m4_6 := hU7_5.blk
            try have hGf : ∀ y, G y → y < _ := fun y h => Nat.lt_of_lt_of_le (hG y h) (Nat.le_trans hE7_1.size hU7_5.but.size)
            refine xl_pure rfl rfl rfl (pv_assign (v := .int _ _) rfl rfl) ?_
            refine xl_nil ?_
            refine xthen_normal ?_
            refine xc_seq ?_
            refine xc_seq ?_
            refine xc_region ?_
            refine xl_pure rfl rfl rfl (pv_move (v := .int _ _) rfl rfl) ?_
            refine xl_pure rfl rfl rfl (pv_move (v := .int _ _) rfl rfl) ?_
            refine xl_ndec rfl rfl rfl (pv_neq rfl rfl rfl) (fun h8_2 => ?_) (fun h8_2 => ?_)
            · skip
              refine xl_pure rfl rfl rfl (pv_move (v := .bool _) rfl rfl) ?_
              refine xl_pure rfl rfl rfl (pv_move (v := .pointer _) rfl rfl) ?_
              refine xl_pure rfl rfl rfl (pv_neq_pn rfl rfl rfl) ?_
              refine xl_pure rfl rfl rfl (pv_move (v := .int _ _) rfl rfl) ?_
              refine xl_dec rfl rfl rfl (pv_eql rfl rfl rfl) (fun h8_7 => ?_) (fun h8_7 => ?_)
              · skip
                refine xl_pure rfl rfl rfl (pv_neq_b rfl rfl rfl) ?_
                refine xl_pure rfl rfl rfl (pv_pick_f (v := .bool _) rfl rfl rfl) ?_
                refine xl_nil ?_
                refine xthen_normal ?_
                refine xc_cond_f rfl ?_
                refine xc_skip ?_
                refine xthen_normal ?_
                refine xc_seq ?_
                refine xc_seq ?_
                refine xc_region ?_
                refine xl_pure rfl rfl rfl (pv_assign (v := .int _ _) rfl rfl) ?_
                refine xl_nil ?_
                refine xthen_normal ?_
                refine xc_block ?_
                refine xc_loop (τ := Nat × List Sd × Fn × (Nat → Prop) × Option Addr × Nat) (fun t => [(2, .slice a3 A.length c3), (7, .pointer (some ⟨bp, 0, none⟩)), (8, .int .i64 0), (9, .pointer (some ⟨b4_6, 0, none⟩)), (11, .int .i64 (t.1 : Nat))]) (fun t H' => (t.1 ≤ A.length) ∧ (IV t.2.1 t.2.2.1) ∧ (sls l = t.2.1.map Sd.sl) ∧ (∀ y, t.2.2.2.1 y → y < H'.size) ∧ (∀ y, t.2.2.2.1 y → H.size ≤ y) ∧ (¬ t.2.2.2.1 b4_6) ∧ (Blk H' b4_6 [.slice a l.length c, .slice t.2.2.2.2.1 t.2.1.length t.2.2.2.2.2] 45) ∧ (BB H' bp t.2.2.2.1 t.2.1 t.2.2.1) ∧ (LX H.size H' t.2.2.2.1 t.2.2.2.2.1 t.2.2.2.2.2 (t.2.1.map lnS)) ∧ (Ext H H')) (fun t H' => A.length - t.1) (0, S, f, G, xa, xc) ?_ ?_ ?_
                · exact ⟨rfl, rfl, rfl, rfl, rfl, trivial⟩
                · skip
                  exact ⟨Nat.zero_le _, hI, hsl, hGf, hge, hnb0, m4_6, hb, hx, hX⟩
                · intro σ
                  clear hX hb hx m4_6
                  rintro ⟨i, S, f, G, xa, xc⟩ Hl11 ⟨hi, hI, hsl, hG, hge, hnb, mx, hb, hx, hX⟩
                  replace hi : i ≤ A.length := hi
                  replace hI : IV S f := hI
                  replace hsl : sls l = S.map Sd.sl := hsl
                  replace hG : ∀ y, G y → y < Hl11.size := hG
                  replace hge : ∀ y, G y → H.size ≤ y := hge
                  replace hnb : ¬ G b4_6 := hnb
                  replace mx : Blk Hl11 b4_6 [.slice a l.length c, .slice xa S.length xc] 45 := mx
                  replace hb : BB Hl11 bp G S f := hb
                  replace hx : LX H.size Hl11 G xa xc (S.map lnS) := hx
                  replace hX : Ext H Hl11 := hX
                  show XC _ _ _ (upds σ [(2, .slice a3 A.length c3), (7, .pointer (some ⟨bp, 0, none⟩)), (8, .int .i64 0), (9, .pointer (some ⟨b4_6, 0, none⟩)), (11, .int .i64 (i : Nat))]) _
                  refine xc_seq ?_
                  refine xc_seq ?_
                  refine xc_region ?_
                  refine xl_pure rfl rfl rfl (pv_move (v := .int _ _) rfl rfl) ?_
                  refine xl_pure rfl rfl rfl (pv_move (v := .slice _ _ _) rfl rfl) ?_
                  refine xl_pure rfl rfl rfl (pv_len_l rfl rfl) ?_
                  refine xl_dec rfl rfl rfl (pv_lss rfl rfl rfl) (fun h11_3 => ?_) (fun h11_3 => ?_)
                  · skip
                    refine xl_pure rfl rfl rfl (pv_move (v := .bool _) rfl rfl) ?_
                    refine xl_pure rfl rfl rfl (pv_move (v := .int _ _) rfl rfl) ?_
                    refine xl_dec rfl rfl rfl (pv_eql rfl rfl rfl) (fun h11_6 => ?_) (fun h11_6 => ?_)
                    · skip
                      refine xl_pure rfl rfl rfl (pv_pick_t (v := .bool _) rfl rfl rfl) ?_
                      refine xl_nil ?_
                      refine xthen_normal ?_
                      refine xc_cond_t rfl ?_
                      refine xc_skip ?_
                      refine xthen_normal ?_
                      refine xc_seq ?_
                      refine xc_block ?_
                      refine xc_seq ?_
                      obtain ⟨q, b, o, j, hr4⟩ := row4 hA.1 (i := i) (by omega)
                      refine xp_start rfl (by repeat (first | with_reducible exact np_fin | with_reducible exact np_ret | with_reducible refine np_then ?_ | with_reducible refine np_block ?_)) (by kernel_rfl) ?_
                      refine xp_pure (i := 0) rfl (by kernel_rfl) (by kernel_rfl) rfl rfl rfl (pv_move (v := .pointer _) rfl rfl) ?_
                      refine xp_light (i := 1) rfl (by kernel_rfl) (by kernel_rfl) rfl rfl rfl (lv_load (v := .agg _) rfl rfl (ld_blk_a mx rfl rfl)) ?_
                      refine xp_pure (i := 2) rfl (by kernel_rfl) (by kernel_rfl) rfl rfl rfl (pv_move (v := .slice _ _ _) rfl rfl) ?_
                      refine xp_pure (i := 3) rfl (by kernel_rfl) (by kernel_rfl) rfl rfl rfl (pv_move (v := .int _ _) rfl rfl) ?_
                      refine xp_pure (i := 4) rfl (by kernel_rfl) (by kernel_rfl) rfl rfl rfl (pv_indexAddr_l rfl (sl_eq (hdA (by omega)).1) rfl (by omega)) ?_
                      refine xp_light (i := 5) rfl (by kernel_rfl) (by kernel_rfl) rfl rfl rfl (lv_load (v := .agg _) rfl rfl (by have h := ld_row' ((hdA (by omega)).2.ext hX) hA.1 (by omega) (i := i); rw [hr4] at h; exact h)) ?_
                      refine xp_heavy2 (i := 6) (j := 10) (by kernel_rfl) ?_ ?_
                      · skip
                        refine xph_val rfl rfl rfl rfl (hv_call (g := 17) rfl rfl (doB hb hI (hs.ext hX) hsl hx hG hX.size (fun kf => hs.ext (hX.keep kf hge)) q b o j) rfl) (pd (by kernel_rfl) (pd (by kernel_rfl) pn)) ?_
                        rintro v13_6 H13_6 ⟨S2, f2, G2, xa2, xc2, rfl, hb2, hx2, hI2, hq2, hg1, hg2, hK13_6⟩
                        have hX1 := hX.size
                        have hsl2 : sls l = S2.map Sd.sl := hsl.trans hq2.symm
                        have hnb2 : ¬ G2 b4_6 := fun h => (hg1 _ h).elim hnb (fun h => by have := mx.lt; omega)
                        have mx := mx.keep hK13_6 hnb
                        have hge2 : ∀ i, G2 i → H.size ≤ i := fun i h => (hg1 i h).elim (hge i) (fun h => Nat.le_trans hX1 h)
                        have hX := hX.keep hK13_6 hge
                        have hb := hb2
                        have hx := hx2
                        refine ⟨okn, ?_⟩
                        refine xp_pure (i := 7) rfl (by kernel_rfl) (by kernel_rfl) rfl rfl rfl (pv_move (v := .tuple _) rfl rfl) ?_
                        refine xp_pure (i := 8) rfl (by kernel_rfl) (by kernel_rfl) rfl rfl rfl (pv_extract (v := .agg _) rfl rfl rfl) ?_
                        refine xp_pure (i := 9) rfl (by kernel_rfl) (by kernel_rfl) rfl rfl rfl (pv_extract (v := .bool _) rfl rfl rfl) ?_
                        refine xp_heavy (i := 10) (by kernel_rfl) ?_
                        refine xph_val rfl rfl rfl rfl (hv_alloc rfl rfl) pn ?_
                        rintro v13_10 H13_10 ⟨b13_10, rfl, hN13_10⟩
                        have gb13_10 := hX.fresh hN13_10
                        have nmx_13_10 := mx.apart hN13_10
                        have hb := hb.ext hN13_10.ext
                        have hx := hx.ext hN13_10.ext
                        have mx := mx.ext hN13_10.ext
                        have hX := hX.trans hN13_10.ext
                        have m13_10 := hN13_10.blk
                        try have hnA : ¬ G b13_10 := fun h => by have := hG _ h; have := hN13_10.ge; omega
                        try have hnb3 : ¬ G2 b13_10 := fun h => by have := hg2 _ h; have := hN13_10.ge; omega
                        have hbb3 : H.size ≤ b13_10 := gb13_10.le
                        try have hG : ∀ y, G y → y < _ := fun y h => Nat.lt_of_lt_of_le (hG y h) hN13_10.ext.size
                        refine ⟨okn, ?_⟩
                        refine xp_heavy (i := 11) (by kernel_rfl) ?_
                        refine xph_store rfl rfl rfl (hv_storeA (vs := [.slice _ _ _, .slice _ _ _]) rfl rfl rfl (m13_10) rfl (by rfl) rfl) pn ?_
                        rintro v13_11 H13_11 ⟨hU13_11, hZ13_11⟩
                        have hb := hb.offT m13_10 hU13_11.but (by first | rfl | assumption)
                        have hx := hx.offT m13_10 hU13_11.but (by first | rfl | assumption)
                        have mx := mx.off hU13_11.but (by first | exact nmx_13_10 | exact ⟨mx.ne m13_10 rfl⟩ | exact ⟨mx.ne m13_10 (by assumption)⟩ | exact ⟨Ne.symm (m13_10.ne mx (by assumption))⟩)
                        have hX := hX.upd hU13_11.but gb13_10
                        have m13_10 := hU13_11.blk
                        refine ⟨okn, ?_⟩
                        refine xp_pure (i := 12) rfl (by kernel_rfl) (by kernel_rfl) rfl rfl rfl (pv_assign (v := .bool _) rfl rfl) ?_
                        refine xp_done (by kernel_rfl) ?_
                        refine xthen_normal ?_
                        refine xc_seq ?_
                        refine xc_region ?_
                        refine xl_light rfl rfl rfl (lv_load (v := .agg _) rfl rfl (ld_blk_a m13_10 rfl rfl)) ?_
                        refine xl_store rfl rfl (hv_storeA (vs := [.slice _ _ _, .slice _ _ _]) rfl rfl rfl (mx) rfl (by rfl) rfl) ?_
                        rintro v14_1 H14_1 ⟨hU14_1, hZ14_1⟩
                        have hb := hb.offT mx hU14_1.but (by first | rfl | assumption)
                        have hx := hx.offT mx hU14_1.but (by first | rfl | assumption)
                        have m13_10 := m13_10.off hU14_1.but (by first | exact nmx_13_10.symm | exact ⟨m13_10.ne mx rfl⟩ | exact ⟨m13_10.ne mx (by assumption)⟩ | exact ⟨Ne.symm (mx.ne m13_10 (by assumption))⟩)
                        have hX := hX.upd hU14_1.but gb4_6
                        have mx := hU14_1.blk
                        refine xl_nil ?_
                        refine xthen_normal ?_
                        refine xc_seq ?_
                        refine xp_start rfl (by repeat (first | with_reducible exact np_fin | with_reducible exact np_ret | with_reducible refine np_then ?_ | with_reducible refine np_block ?_)) (by kernel_rfl) ?_
                        refine xp_pure (i := 0) rfl (by kernel_rfl) (by kernel_rfl) rfl rfl rfl (pv_move (v := .bool _) rfl rfl) ?_
                        refine xp_pure (i := 1) rfl (by kernel_rfl) (by kernel_rfl) rfl rfl rfl (pv_not rfl rfl) ?_
                        refine xp_pure (i := 2) rfl (by kernel_rfl) (by kernel_rfl) rfl rfl rfl (pv_move (v := .bool _) rfl rfl) ?_
                        refine xp_pure (i := 3) rfl (by kernel_rfl) (by kernel_rfl) rfl rfl rfl (pv_move (v := .pointer _) rfl rfl) ?_
                        refine xp_pure (i := 5) rfl (by kernel_rfl) (by kernel_rfl) rfl rfl rfl (pv_fieldAddr rfl rfl) ?_
                        refine xp_light (i := 6) rfl (by kernel_rfl) (by kernel_rfl) rfl rfl rfl (lv_load (v := .slice _ _ _) rfl rfl (ld_blk mx rfl)) ?_
                        refine xp_heavy (i := 4) (by kernel_rfl) ?_
                        refine xph_val rfl rfl rfl rfl (hv_call (g := 11) rfl rfl (linesB (hb) hI2.gs) rfl) (pk (by kernel_rfl) pn) ?_
                        rintro v15_4 H15_4 ⟨a15_4, c15_4, rfl, hD15_4, hE15_4⟩
                        have hb := hb.ext hE15_4
                        have hx := hx.ext hE15_4
                        have mx := mx.ext hE15_4
                        have m13_10 := m13_10.ext hE15_4
                        have hX := hX.trans hE15_4
                        refine ⟨(okc (lv_load (v := .slice _ _ _) rfl rfl (ld_blk mx rfl)) okn), ?_⟩
                        refine xp_heavy (i := 7) (by kernel_rfl) ?_
                        refine xph_val rfl rfl rfl rfl (hv_call (g := 13) rfl rfl (sameL hD15_4 (hx.ld) (by simp) (by simp) (iv_len hI2) (iv_small hI2)) rfl) (pd (by kernel_rfl) pn) ?_
                        rintro v15_7 H15_7 ⟨r15_7, rfl, hb15_7, rfl⟩
                        obtain rfl : r15_7 = true := hb15_7.2 rfl
                        refine ⟨okn, ?_⟩
                        refine xp_pure (i := 8) rfl (by kernel_rfl) (by kernel_rfl) rfl rfl rfl (pv_not rfl rfl) ?_
                        refine xp_pure (i := 9) rfl (by kernel_rfl) (by kernel_rfl) rfl rfl rfl (pv_pick_f (v := .bool _) rfl rfl rfl) ?_
                        refine xp_done (by kernel_rfl) ?_
                        refine xthen_normal ?_
                        refine xc_cond_f rfl ?_
                        refine xc_skip ?_
                        refine xblock_normal ?_
                        refine xthen_normal ?_
                        refine xc_region ?_
                        refine xl_pure rfl rfl rfl (pv_move (v := .int _ _) rfl rfl) ?_
                        refine xl_pure rfl rfl rfl (pv_add rfl rfl rfl (fit_i64 (by omega))) ?_
                        refine xl_pure rfl rfl rfl (pv_assign (v := .int _ _) rfl rfl) ?_
                        refine xl_nil ?_
                        refine xthen_normal ?_
                        exact ⟨(i + 1, S2, f2, G2, _, _), ⟨rfl, rfl, rfl, rfl, rfl, trivial⟩, ⟨by (try simp only); omega, hI2, hsl2, fun i h => Nat.lt_of_lt_of_le (hg2 i h) (by first | (have := hU13_11.but.size; have := hU14_1.but.size; have := hN13_10.ext.size; have := hE15_4.size; omega) | (have := hU13_11.but.size; have := hU14_1.but.size; have := hE15_4.size; omega)), hge2, hnb2, mx, hb, hx, hX⟩, by (try simp only); omega⟩
                      · skip
                        refine xph_val rfl rfl rfl rfl (hv_alloc rfl rfl) (pk (by kernel_rfl) (pk (by kernel_rfl) pn)) ?_
                        rintro v13_10 H13_10 ⟨b13_10, rfl, hN13_10⟩
                        have gb13_10 := hX.fresh hN13_10
                        have nmx_13_10 := mx.apart hN13_10
                        have hb := hb.ext hN13_10.ext
                        have hx := hx.ext hN13_10.ext
                        have mx := mx.ext hN13_10.ext
                        have hX := hX.trans hN13_10.ext
                        have m13_10 := hN13_10.blk
                        try have hnA : ¬ G b13_10 := fun h => by have := hG _ h; have := hN13_10.ge; omega
                        try have hnb3 : ¬ G2 b13_10 := fun h => by have := hg2 _ h; have := hN13_10.ge; omega
                        have hbb3 : H.size ≤ b13_10 := gb13_10.le
                        try have hG : ∀ y, G y → y < _ := fun y h => Nat.lt_of_lt_of_le (hG y h) hN13_10.ext.size
                        refine ⟨(okc (lv_load (v := .agg _) rfl rfl (by have h := ld_row' ((hdA (by omega)).2.ext hX) hA.1 (by omega) (i := i); rw [hr4] at h; exact h)) (okc (lv_load (v := .agg _) rfl rfl (ld_blk_a mx rfl rfl)) okn)), ?_⟩
                        refine xp_heavy (i := 6) (by kernel_rfl) ?_
                        refine xph_val rfl rfl rfl rfl (hv_call (g := 17) rfl rfl (doB hb hI (hs.ext hX) hsl hx hG hX.size (fun kf => hs.ext (hX.keep kf hge)) q b o j) rfl) (pd (by kernel_rfl) (pd (by kernel_rfl) pn)) ?_
                        rintro v13_6 H13_6 ⟨S2, f2, G2, xa2, xc2, rfl, hb2, hx2, hI2, hq2, hg1, hg2, hK13_6⟩
                        have hX1 := hX.size
                        have hsl2 : sls l = S2.map Sd.sl := hsl.trans hq2.symm
                        have hnb2 : ¬ G2 b4_6 := fun h => (hg1 _ h).elim hnb (fun h => by have := mx.lt; omega)
                        have hnb3 : ¬ G2 b13_10 := fun h => (hg1 _ h).elim hnA (fun h => by have := m13_10.lt; omega)
                        have m13_10 := m13_10.keep hK13_6 hnA
                        have mx := mx.keep hK13_6 hnb
                        have hge2 : ∀ i, G2 i → H.size ≤ i := fun i h => (hg1 i h).elim (hge i) (fun h => Nat.le_trans hX1 h)
                        have hX := hX.keep hK13_6 hge
                        have hb := hb2
                        have hx := hx2
                        refine ⟨okn, ?_⟩
                        refine xp_pure (i := 7) rfl (by kernel_rfl) (by kernel_rfl) rfl rfl rfl (pv_move (v := .tuple _) rfl rfl) ?_
                        refine xp_pure (i := 8) rfl (by kernel_rfl) (by kernel_rfl) rfl rfl rfl (pv_extract (v := .agg _) rfl rfl rfl) ?_
                        refine xp_pure (i := 9) rfl (by kernel_rfl) (by kernel_rfl) rfl rfl rfl (pv_extract (v := .bool _) rfl rfl rfl) ?_
                        refine xp_heavy (i := 11) (by kernel_rfl) ?_
                        refine xph_store rfl rfl rfl (hv_storeA (vs := [.slice _ _ _, .slice _ _ _]) rfl rfl rfl (m13_10) rfl (by rfl) rfl) pn ?_
                        rintro v13_11 H13_11 ⟨hU13_11, hZ13_11⟩
                        have hb := hb.offT m13_10 hU13_11.but (by first | rfl | assumption)
                        have hx := hx.offT m13_10 hU13_11.but (by first | rfl | assumption)
                        have mx := mx.off hU13_11.but (by first | exact nmx_13_10 | exact ⟨mx.ne m13_10 rfl⟩ | exact ⟨mx.ne m13_10 (by assumption)⟩ | exact ⟨Ne.symm (m13_10.ne mx (by assumption))⟩)
                        have hX := hX.upd hU13_11.but gb13_10
                        have m13_10 := hU13_11.blk
                        refine ⟨okn, ?_⟩
                        refine xp_pure (i := 12) rfl (by kernel_rfl) (by kernel_rfl) rfl rfl rfl (pv_assign (v := .bool _) rfl rfl) ?_
                        refine xp_done (by kernel_rfl) ?_
                        refine xthen_normal ?_
                        refine xc_seq ?_
                        refine xc_region ?_
                        refine xl_light rfl rfl rfl (lv_load (v := .agg _) rfl rfl (ld_blk_a m13_10 rfl rfl)) ?_
                        refine xl_store rfl rfl (hv_storeA (vs := [.slice _ _ _, .slice _ _ _]) rfl rfl rfl (mx) rfl (by rfl) rfl) ?_
                        rintro v14_1 H14_1 ⟨hU14_1, hZ14_1⟩
                        have hb := hb.offT mx hU14_1.but (by first | rfl | assumption)
                        have hx := hx.offT mx hU14_1.but (by first | rfl | assumption)
                        have m13_10 := m13_10.off hU14_1.but (by first | exact nmx_13_10.symm | exact ⟨m13_10.ne mx rfl⟩ | exact ⟨m13_10.ne mx (by assumption)⟩ | exact ⟨Ne.symm (mx.ne m13_10 (by assumption))⟩)
                        have hX := hX.upd hU14_1.but gb4_6
                        have mx := hU14_1.blk
                        refine xl_nil ?_
                        refine xthen_normal ?_
                        refine xc_seq ?_
                        refine xp_start rfl (by repeat (first | with_reducible exact np_fin | with_reducible exact np_ret | with_reducible refine np_then ?_ | with_reducible refine np_block ?_)) (by kernel_rfl) ?_
                        refine xp_pure (i := 0) rfl (by kernel_rfl) (by kernel_rfl) rfl rfl rfl (pv_move (v := .bool _) rfl rfl) ?_
                        refine xp_pure (i := 1) rfl (by kernel_rfl) (by kernel_rfl) rfl rfl rfl (pv_not rfl rfl) ?_
                        refine xp_pure (i := 2) rfl (by kernel_rfl) (by kernel_rfl) rfl rfl rfl (pv_move (v := .bool _) rfl rfl) ?_
                        refine xp_pure (i := 3) rfl (by kernel_rfl) (by kernel_rfl) rfl rfl rfl (pv_move (v := .pointer _) rfl rfl) ?_
                        refine xp_pure (i := 5) rfl (by kernel_rfl) (by kernel_rfl) rfl rfl rfl (pv_fieldAddr rfl rfl) ?_
                        refine xp_light (i := 6) rfl (by kernel_rfl) (by kernel_rfl) rfl rfl rfl (lv_load (v := .slice _ _ _) rfl rfl (ld_blk mx rfl)) ?_
                        refine xp_heavy (i := 4) (by kernel_rfl) ?_
                        refine xph_val rfl rfl rfl rfl (hv_call (g := 11) rfl rfl (linesB (hb) hI2.gs) rfl) (pk (by kernel_rfl) pn) ?_
                        rintro v15_4 H15_4 ⟨a15_4, c15_4, rfl, hD15_4, hE15_4⟩
                        have hb := hb.ext hE15_4
                        have hx := hx.ext hE15_4
                        have mx := mx.ext hE15_4
                        have m13_10 := m13_10.ext hE15_4
                        have hX := hX.trans hE15_4
                        refine ⟨(okc (lv_load (v := .slice _ _ _) rfl rfl (ld_blk mx rfl)) okn), ?_⟩
                        refine xp_heavy (i := 7) (by kernel_rfl) ?_
                        refine xph_val rfl rfl rfl rfl (hv_call (g := 13) rfl rfl (sameL hD15_4 (hx.ld) (by simp) (by simp) (iv_len hI2) (iv_small hI2)) rfl) (pd (by kernel_rfl) pn) ?_
                        rintro v15_7 H15_7 ⟨r15_7, rfl, hb15_7, rfl⟩
                        obtain rfl : r15_7 = true := hb15_7.2 rfl
                        refine ⟨okn, ?_⟩
                        refine xp_pure (i := 8) rfl (by kernel_rfl) (by kernel_rfl) rfl rfl rfl (pv_not rfl rfl) ?_
                        refine xp_pure (i := 9) rfl (by kernel_rfl) (by kernel_rfl) rfl rfl rfl (pv_pick_f (v := .bool _) rfl rfl rfl) ?_
                        refine xp_done (by kernel_rfl) ?_
                        refine xthen_normal ?_
                        refine xc_cond_f rfl ?_
                        refine xc_skip ?_
                        refine xblock_normal ?_
                        refine xthen_normal ?_
                        refine xc_region ?_
                        refine xl_pure rfl rfl rfl (pv_move (v := .int _ _) rfl rfl) ?_
                        refine xl_pure rfl rfl rfl (pv_add rfl rfl rfl (fit_i64 (by omega))) ?_
                        refine xl_pure rfl rfl rfl (pv_assign (v := .int _ _) rfl rfl) ?_
                        refine xl_nil ?_
                        refine xthen_normal ?_
                        exact ⟨(i + 1, S2, f2, G2, _, _), ⟨rfl, rfl, rfl, rfl, rfl, trivial⟩, ⟨by (try simp only); omega, hI2, hsl2, fun i h => Nat.lt_of_lt_of_le (hg2 i h) (by first | (have := hU13_11.but.size; have := hU14_1.but.size; have := hN13_10.ext.size; have := hE15_4.size; omega) | (have := hU13_11.but.size; have := hU14_1.but.size; have := hE15_4.size; omega)), hge2, hnb2, mx, hb, hx, hX⟩, by (try simp only); omega⟩
                    · exact absurd (by decide) h11_6
                  · skip
                    refine xl_pure rfl rfl rfl (pv_move (v := .bool _) rfl rfl) ?_
                    refine xl_skip rfl rfl rfl ?_
                    refine xl_skip rfl rfl rfl ?_
                    refine xl_pure rfl rfl rfl (pv_pick_f (v := .bool _) rfl rfl rfl) ?_
                    refine xl_nil ?_
                    refine xthen_normal ?_
                    refine xc_cond_f rfl ?_
                    refine xc_exit ?_
                    refine xthen_exit ?_
                    refine xthen_exit ?_
                    refine xblock_same ?_
                    refine xthen_normal ?_
                    refine xc_seq ?_
                    refine xp_start rfl (by repeat (first | with_reducible exact np_fin | with_reducible exact np_ret | with_reducible refine np_then ?_ | with_reducible refine np_block ?_)) (by kernel_rfl) ?_
                    refine xp_pure (i := 0) rfl (by kernel_rfl) (by kernel_rfl) rfl rfl rfl (pv_move (v := .int _ _) rfl rfl) ?_
                    refine xp_ndec (i := 1) rfl (by kernel_rfl) (by kernel_rfl) rfl rfl rfl (pv_neq rfl rfl rfl) (fun h17_1 => ?_) (fun h17_1 => ?_)
                    · skip
                      refine xp_pure (i := 2) rfl (by kernel_rfl) (by kernel_rfl) rfl rfl rfl (pv_move (v := .bool _) rfl rfl) ?_
                      refine xp_pure (i := 3) rfl (by kernel_rfl) (by kernel_rfl) rfl rfl rfl (pv_move (v := .pointer _) rfl rfl) ?_
                      refine xp_pure (i := 5) rfl (by kernel_rfl) (by kernel_rfl) rfl rfl rfl (pv_fieldAddr rfl rfl) ?_
                      refine xp_light (i := 6) rfl (by kernel_rfl) (by kernel_rfl) rfl rfl rfl (lv_load (v := .slice _ _ _) rfl rfl (ld_blk mx rfl)) ?_
                      refine xp_heavy (i := 4) (by kernel_rfl) ?_
                      refine xph_val rfl rfl rfl rfl (hv_call (g := 11) rfl rfl (linesB (hb) hI.gs) rfl) (pk (by kernel_rfl) pn) ?_
                      rintro v17_4 H17_4 ⟨a17_4, c17_4, rfl, hD17_4, hE17_4⟩
                      have hb := hb.ext hE17_4
                      have hx := hx.ext hE17_4
                      have mx := mx.ext hE17_4
                      have hX := hX.trans hE17_4
                      refine ⟨(okc (lv_load (v := .slice _ _ _) rfl rfl (ld_blk mx rfl)) okn), ?_⟩
                      refine xp_heavy (i := 7) (by kernel_rfl) ?_
                      refine xph_val rfl rfl rfl rfl (hv_call (g := 13) rfl rfl (sameL hD17_4 (hx.ld) (by simp) (by simp) (iv_len hI) (iv_small hI)) rfl) (pd (by kernel_rfl) pn) ?_
                      rintro v17_7 H17_7 ⟨r17_7, rfl, hb17_7, rfl⟩
                      obtain rfl : r17_7 = true := hb17_7.2 rfl
                      refine ⟨okn, ?_⟩
                      refine xp_pure (i := 8) rfl (by kernel_rfl) (by kernel_rfl) rfl rfl rfl (pv_pick_f (v := .bool _) rfl rfl rfl) ?_
                      refine xp_pure (i := 9) rfl (by kernel_rfl) (by kernel_rfl) rfl rfl rfl (pv_move (v := .bool _) rfl rfl) ?_
                      refine xp_heavy (i := 10) (by kernel_rfl) ?_
                      refine xph_val rfl rfl rfl rfl (hv_call (g := 8) rfl rfl (awake) rfl) pn ?_
                      rintro v17_10 H17_10 ⟨rfl, hE17_10⟩
                      have hb := hb.ext hE17_10
                      have hx := hx.ext hE17_10
                      have mx := mx.ext hE17_10
                      have hX := hX.trans hE17_10
                      refine ⟨okn, ?_⟩
                      refine xp_pure (i := 11) rfl (by kernel_rfl) (by kernel_rfl) rfl rfl rfl (pv_pick_t (v := .bool _) rfl rfl rfl) ?_
                      refine xp_pure (i := 12) rfl (by kernel_rfl) (by kernel_rfl) rfl rfl rfl (pv_assign (v := .bool _) rfl rfl) ?_
                      refine xp_done (by kernel_rfl) ?_
                      refine xthen_normal ?_
                      refine xc_ret ?_
                      refine fin_ret (res1 (v := .bool _) rfl rfl) ?_
                      exact ⟨rfl, hX⟩
                    · exact absurd (by decide) h17_1
              · exact absurd (by decide) h8_7
            · exact absurd (by decide) h8_2
          · skip
            obtain ⟨G, hG, hge⟩ : ∃ G : Nat → Prop, (∀ i, G i → i < Array.size H6_1) ∧ ∀ i, G i → H.size ≤ i := ⟨fun _ => False, fun i h => h.elim, fun i h => h.elim⟩
            refine xl_pure rfl rfl rfl (pv_move (v := .tuple _) rfl rfl) ?_
            refine xl_pure rfl rfl rfl (pv_extract (v := .pointer _) rfl rfl rfl) ?_
            refine xl_pure rfl rfl rfl (pv_extract (v := .int _ _) rfl rfl rfl) ?_
            refine xl_pure rfl rfl rfl (pv_assign (v := .pointer _) rfl rfl) ?_
            refine xl_pure rfl rfl rfl (pv_assign (v := .int _ _) rfl rfl) ?_
            refine xl_nil ?_
            refine xthen_normal ?_
            refine xc_region ?_
            refine xl_pure rfl rfl rfl (pv_move (v := .slice _ _ _) rfl rfl) ?_
            refine xl_heavy rfl rfl rfl (hv_call (g := 12) rfl rfl (dnew (B := H.size) (G := G) (hs.ext hX) (by omega) hG hX.size) rfl) ?_
            rintro v7_1 H7_1 ⟨hv7_1, hE7_1⟩
            have hb := hb.ext hE7_1
            have hx := hx.ext hE7_1
            have m4_6 := m4_6.ext hE7_1
            have hX := hX.trans hE7_1
            replace hv7_1 := hv7_1.resolve_left (fun h => hno2 h.1)
            obtain ⟨-, rfl⟩ := hv7_1
            refine xl_pure rfl rfl rfl (pv_move (v := .tuple _) rfl rfl) ?_
            refine xl_pure rfl rfl rfl (pv_extract (v := .agg _) rfl rfl rfl) ?_
            refine xl_pure rfl rfl rfl (pv_extract (v := .int _ _) rfl rfl rfl) ?_
            refine xl_store rfl rfl (hv_storeA (vs := [.slice _ _ _, .slice _ _ _]) rfl rfl rfl (m4_6) rfl (by rfl) rfl) ?_
            rintro v7_5 H7_5 ⟨hU7_5, hZ7_5⟩
            have hb := hb.offT m4_6 hU7_5.but (by first | rfl | assumption)
            have hx := hx.offT m4_6 hU7_5.but (by first | rfl | assumption)
            have hX := hX.upd hU7_5.but gb4_6
            have m4_6 := hU7_5.blk
            try have hGf : ∀ y, G y → y < _ := fun y h => Nat.lt_of_lt_of_le (hG y h) (Nat.le_trans hE7_1.size hU7_5.but.size)
            refine xl_pure rfl rfl rfl (pv_assign (v := .int _ _) rfl rfl) ?_
            refine xl_nil ?_
            refine xthen_normal ?_
            refine xc_seq ?_
            refine xc_seq ?_
            refine xc_region ?_
            refine xl_pure rfl rfl rfl (pv_move (v := .int _ _) rfl rfl) ?_
            refine xl_pure rfl rfl rfl (pv_move (v := .int _ _) rfl rfl) ?_
            refine xl_ndec rfl rfl rfl (pv_neq rfl rfl rfl) (fun h8_2 => ?_) (fun h8_2 => ?_)
            · skip
              refine xl_pure rfl rfl rfl (pv_move (v := .bool _) rfl rfl) ?_
              refine xl_pure rfl rfl rfl (pv_move (v := .pointer _) rfl rfl) ?_
              refine xl_pure rfl rfl rfl (pv_neq_nn rfl rfl rfl) ?_
              refine xl_pure rfl rfl rfl (pv_move (v := .int _ _) rfl rfl) ?_
              refine xl_dec rfl rfl rfl (pv_eql rfl rfl rfl) (fun h8_7 => ?_) (fun h8_7 => ?_)
              · exact absurd h8_7 (by decide)
              · skip
                refine xl_pure rfl rfl rfl (pv_neq_b rfl rfl rfl) ?_
                refine xl_pure rfl rfl rfl (pv_pick_f (v := .bool _) rfl rfl rfl) ?_
                refine xl_nil ?_
                refine xthen_normal ?_
                refine xc_cond_f rfl ?_
                refine xc_skip ?_
                refine xthen_normal ?_
                refine xc_seq ?_
                refine xc_seq ?_
                refine xc_region ?_
                refine xl_pure rfl rfl rfl (pv_assign (v := .int _ _) rfl rfl) ?_
                refine xl_nil ?_
                refine xthen_normal ?_
                refine xc_block ?_
                refine xc_loop (τ := Nat) (fun t => [(2, .slice a3 A.length c3), (7, .pointer none), (8, .int .i64 1), (9, .pointer (some ⟨b4_6, 0, none⟩)), (11, .int .i64 (t : Nat))]) (fun t H' => (t ≤ A.length) ∧ (Ext H H')) (fun t H' => A.length - t) 0 ?_ ?_ ?_
                · exact ⟨rfl, rfl, rfl, rfl, rfl, trivial⟩
                · skip
                  exact ⟨Nat.zero_le _, hX⟩
                · intro σ
                  clear hX hb hx m4_6
                  rintro i Hl11 ⟨hi, hX⟩
                  replace hi : i ≤ A.length := hi
                  replace hX : Ext H Hl11 := hX
                  show XC _ _ _ (upds σ [(2, .slice a3 A.length c3), (7, .pointer none), (8, .int .i64 1), (9, .pointer (some ⟨b4_6, 0, none⟩)), (11, .int .i64 (i : Nat))]) _
                  refine xc_seq ?_
                  refine xc_seq ?_
                  refine xc_region ?_
                  refine xl_pure rfl rfl rfl (pv_move (v := .int _ _) rfl rfl) ?_
                  refine xl_pure rfl rfl rfl (pv_move (v := .slice _ _ _) rfl rfl) ?_
                  refine xl_pure rfl rfl rfl (pv_len_l rfl rfl) ?_
                  refine xl_dec rfl rfl rfl (pv_lss rfl rfl rfl) (fun h11_3 => ?_) (fun h11_3 => ?_)
                  · skip
                    refine xl_pure rfl rfl rfl (pv_move (v := .bool _) rfl rfl) ?_
                    refine xl_pure rfl rfl rfl (pv_move (v := .int _ _) rfl rfl) ?_
                    refine xl_dec rfl rfl rfl (pv_eql rfl rfl rfl) (fun h11_6 => ?_) (fun h11_6 => ?_)
                    · exact absurd h11_6 (by decide)
                    · skip
                      refine xl_pure rfl rfl rfl (pv_pick_t (v := .bool _) rfl rfl rfl) ?_
                      refine xl_nil ?_
                      refine xthen_normal ?_
                      refine xc_cond_f rfl ?_
                      refine xc_exit ?_
                      refine xthen_exit ?_
                      refine xthen_exit ?_
                      refine xblock_same ?_
                      refine xthen_normal ?_
                      refine xc_seq ?_
                      refine xp_start rfl (by repeat (first | with_reducible exact np_fin | with_reducible exact np_ret | with_reducible refine np_then ?_ | with_reducible refine np_block ?_)) (by kernel_rfl) ?_
                      refine xp_pure (i := 0) rfl (by kernel_rfl) (by kernel_rfl) rfl rfl rfl (pv_move (v := .int _ _) rfl rfl) ?_
                      refine xp_ndec (i := 1) rfl (by kernel_rfl) (by kernel_rfl) rfl rfl rfl (pv_neq rfl rfl rfl) (fun h17_1 => ?_) (fun h17_1 => ?_)
                      · exact absurd h17_1 (by decide)
                      · skip
                        refine xp_pure (i := 2) rfl (by kernel_rfl) (by kernel_rfl) rfl rfl rfl (pv_move (v := .bool _) rfl rfl) ?_
                        refine xp_skip (i := 3) rfl (by kernel_rfl) (by kernel_rfl) rfl rfl rfl ?_
                        refine xp_skip (i := 4) rfl (by kernel_rfl) (by kernel_rfl) rfl rfl rfl ?_
                        refine xp_skip (i := 5) rfl (by kernel_rfl) (by kernel_rfl) rfl rfl rfl ?_
                        refine xp_skip (i := 6) rfl (by kernel_rfl) (by kernel_rfl) rfl rfl rfl ?_
                        refine xp_skip (i := 7) rfl (by kernel_rfl) (by kernel_rfl) rfl rfl rfl ?_
                        refine xp_pure (i := 8) rfl (by kernel_rfl) (by kernel_rfl) rfl rfl rfl (pv_pick_t (v := .bool _) rfl rfl rfl) ?_
                        refine xp_pure (i := 9) rfl (by kernel_rfl) (by kernel_rfl) rfl rfl rfl (pv_move (v := .bool _) rfl rfl) ?_
                        refine xp_heavy (i := 10) (by kernel_rfl) ?_
                        refine xph_val rfl rfl rfl rfl (hv_call (g := 8) rfl rfl (awake) rfl) pn ?_
                        rintro v17_10 H17_10 ⟨rfl, hE17_10⟩
                        have hX := hX.trans hE17_10
                        refine ⟨okn, ?_⟩
                        refine xp_pure (i := 11) rfl (by kernel_rfl) (by kernel_rfl) rfl rfl rfl (pv_pick_t (v := .bool _) rfl rfl rfl) ?_
                        refine xp_pure (i := 12) rfl (by kernel_rfl) (by kernel_rfl) rfl rfl rfl (pv_assign (v := .bool _) rfl rfl) ?_
                        refine xp_done (by kernel_rfl) ?_
                        refine xthen_normal ?_
                        refine xc_ret ?_
                        refine fin_ret (res1 (v := .bool _) rfl rfl) ?_
                        exact ⟨rfl, hX⟩
                  · skip
                    refine xl_pure rfl rfl rfl (pv_move (v := .bool _) rfl rfl) ?_
                    refine xl_skip rfl rfl rfl ?_
                    refine xl_skip rfl rfl rfl ?_
                    refine xl_pure rfl rfl rfl (pv_pick_f (v := .bool _) rfl rfl rfl) ?_
                    refine xl_nil ?_
                    refine xthen_normal ?_
                    refine xc_cond_f rfl ?_
                    refine xc_exit ?_
                    refine xthen_exit ?_
                    refine xthen_exit ?_
                    refine xblock_same ?_
                    refine xthen_normal ?_
                    refine xc_seq ?_
                    refine xp_start rfl (by repeat (first | with_reducible exact np_fin | with_reducible exact np_ret | with_reducible refine np_then ?_ | with_reducible refine np_block ?_)) (by kernel_rfl) ?_
                    refine xp_pure (i := 0) rfl (by kernel_rfl) (by kernel_rfl) rfl rfl rfl (pv_move (v := .int _ _) rfl rfl) ?_
                    refine xp_ndec (i := 1) rfl (by kernel_rfl) (by kernel_rfl) rfl rfl rfl (pv_neq rfl rfl rfl) (fun h17_1 => ?_) (fun h17_1 => ?_)
                    · exact absurd h17_1 (by decide)
                    · skip
                      refine xp_pure (i := 2) rfl (by kernel_rfl) (by kernel_rfl) rfl rfl rfl (pv_move (v := .bool _) rfl rfl) ?_
                      refine xp_skip (i := 3) rfl (by kernel_rfl) (by kernel_rfl) rfl rfl rfl ?_
                      refine xp_skip (i := 4) rfl (by kernel_rfl) (by kernel_rfl) rfl rfl rfl ?_
                      refine xp_skip (i := 5) rfl (by kernel_rfl) (by kernel_rfl) rfl rfl rfl ?_
                      refine xp_skip (i := 6) rfl (by kernel_rfl) (by kernel_rfl) rfl rfl rfl ?_
                      refine xp_skip (i := 7) rfl (by kernel_rfl) (by kernel_rfl) rfl rfl rfl ?_
                      refine xp_pure (i := 8) rfl (by kernel_rfl) (by kernel_rfl) rfl rfl rfl (pv_pick_t (v := .bool _) rfl rfl rfl) ?_
                      refine xp_pure (i := 9) rfl (by kernel_rfl) (by kernel_rfl) rfl rfl rfl (pv_move (v := .bool _) rfl rfl) ?_
                      refine xp_heavy (i := 10) (by kernel_rfl) ?_
                      refine xph_val rfl rfl rfl rfl (hv_call (g := 8) rfl rfl (awake) rfl) pn ?_
                      rintro v17_10 H17_10 ⟨rfl, hE17_10⟩
                      have hX := hX.trans hE17_10
                      refine ⟨okn, ?_⟩
                      refine xp_pure (i := 11) rfl (by kernel_rfl) (by kernel_rfl) rfl rfl rfl (pv_pick_t (v := .bool _) rfl rfl rfl) ?_
                      refine xp_pure (i := 12) rfl (by kernel_rfl) (by kernel_rfl) rfl rfl rfl (pv_assign (v := .bool _) rfl rfl) ?_
                      refine xp_done (by kernel_rfl) ?_
                      refine xthen_normal ?_
                      refine xc_ret ?_
                      refine fin_ret (res1 (v := .bool _) rfl rfl) ?_
                      exact ⟨rfl, hX⟩
            · exact absurd (by decide) h8_2
        · skip
          refine xl_nil ?_
          refine xthen_normal ?_
          refine xc_cond_f rfl ?_
          refine xc_skip ?_
          refine xthen_normal ?_
          refine xc_seq ?_
          refine xc_seq ?_
          refine xc_region ?_
          refine xl_pure rfl rfl rfl (pv_move (v := .int _ _) rfl rfl) ?_
          refine xl_pure rfl rfl rfl (pv_move (v := .int _ _) rfl rfl) ?_
          refine xl_ndec rfl rfl rfl (pv_neq rfl rfl rfl) (fun h8_2 => ?_) (fun h8_2 => ?_)
          · skip
            refine xl_pure rfl rfl rfl (pv_move (v := .bool _) rfl rfl) ?_
            refine xl_pure rfl rfl rfl (pv_move (v := .pointer _) rfl rfl) ?_
            refine xl_pure rfl rfl rfl (pv_neq_pn rfl rfl rfl) ?_
            refine xl_pure rfl rfl rfl (pv_move (v := .int _ _) rfl rfl) ?_
            refine xl_dec rfl rfl rfl (pv_eql rfl rfl rfl) (fun h8_7 => ?_) (fun h8_7 => ?_)
            · skip
              refine xl_pure rfl rfl rfl (pv_neq_b rfl rfl rfl) ?_
              refine xl_pure rfl rfl rfl (pv_pick_f (v := .bool _) rfl rfl rfl) ?_
              refine xl_nil ?_
              refine xthen_normal ?_
              refine xc_cond_f rfl ?_
              refine xc_skip ?_
              refine xthen_normal ?_
              refine xc_seq ?_
              refine xc_seq ?_
              refine xc_region ?_
              refine xl_pure rfl rfl rfl (pv_assign (v := .int _ _) rfl rfl) ?_
              refine xl_nil ?_
              refine xthen_normal ?_
              refine xc_block ?_
              refine xc_loop (τ := Nat × List Sd × Fn × (Nat → Prop) × Option Addr × Nat) (fun t => [(2, .slice a3 A.length c3), (7, .pointer (some ⟨bp, 0, none⟩)), (8, .int .i64 0), (9, .pointer (some ⟨b4_6, 0, none⟩)), (11, .int .i64 (t.1 : Nat))]) (fun t H' => (t.1 ≤ A.length) ∧ (IV t.2.1 t.2.2.1) ∧ (sls l = t.2.1.map Sd.sl) ∧ (∀ y, t.2.2.2.1 y → y < H'.size) ∧ (∀ y, t.2.2.2.1 y → H.size ≤ y) ∧ (¬ t.2.2.2.1 b4_6) ∧ (Blk H' b4_6 [.slice a l.length c, .slice t.2.2.2.2.1 t.2.1.length t.2.2.2.2.2] 45) ∧ (BB H' bp t.2.2.2.1 t.2.1 t.2.2.1) ∧ (LX H.size H' t.2.2.2.1 t.2.2.2.2.1 t.2.2.2.2.2 (t.2.1.map lnS)) ∧ (Ext H H')) (fun t H' => A.length - t.1) (0, S, f, G, xa, xc) ?_ ?_ ?_
              · exact ⟨rfl, rfl, rfl, rfl, rfl, trivial⟩
              · skip
                exact ⟨Nat.zero_le _, hI, hsl, hGf, hge, hnb0, m4_6, hb, hx, hX⟩
              · intro σ
                clear hX hb hx m4_6
                rintro ⟨i, S, f, G, xa, xc⟩ Hl11 ⟨hi, hI, hsl, hG, hge, hnb, mx, hb, hx, hX⟩
                replace hi : i ≤ A.length := hi
                replace hI : IV S f := hI
                replace hsl : sls l = S.map Sd.sl := hsl
                replace hG : ∀ y, G y → y < Hl11.size := hG
                replace hge : ∀ y, G y → H.size ≤ y := hge
                replace hnb : ¬ G b4_6 := hnb
                replace mx : Blk Hl11 b4_6 [.slice a l.length c, .slice xa S.length xc] 45 := mx
                replace hb : BB Hl11 bp G S f := hb
                replace hx : LX H.size Hl11 G xa xc (S.map lnS) := hx
                replace hX : Ext H Hl11 := hX
                show XC _ _ _ (upds σ [(2, .slice a3 A.length c3), (7, .pointer (some ⟨bp, 0, none⟩)), (8, .int .i64 0), (9, .pointer (some ⟨b4_6, 0, none⟩)), (11, .int .i64 (i : Nat))]) _
                refine xc_seq ?_
                refine xc_seq ?_
                refine xc_region ?_
                refine xl_pure rfl rfl rfl (pv_move (v := .int _ _) rfl rfl) ?_
                refine xl_pure rfl rfl rfl (pv_move (v := .slice _ _ _) rfl rfl) ?_
                refine xl_pure rfl rfl rfl (pv_len_l rfl rfl) ?_
                refine xl_dec rfl rfl rfl (pv_lss rfl rfl rfl) (fun h11_3 => ?_) (fun h11_3 => ?_)
                · skip
                  refine xl_pure rfl rfl rfl (pv_move (v := .bool _) rfl rfl) ?_
                  refine xl_pure rfl rfl rfl (pv_move (v := .int _ _) rfl rfl) ?_
                  refine xl_dec rfl rfl rfl (pv_eql rfl rfl rfl) (fun h11_6 => ?_) (fun h11_6 => ?_)
                  · skip
                    refine xl_pure rfl rfl rfl (pv_pick_t (v := .bool _) rfl rfl rfl) ?_
                    refine xl_nil ?_
                    refine xthen_normal ?_
                    refine xc_cond_t rfl ?_
                    refine xc_skip ?_
                    refine xthen_normal ?_
                    refine xc_seq ?_
                    refine xc_block ?_
                    refine xc_seq ?_
                    obtain ⟨q, b, o, j, hr4⟩ := row4 hA.1 (i := i) (by omega)
                    refine xp_start rfl (by repeat (first | with_reducible exact np_fin | with_reducible exact np_ret | with_reducible refine np_then ?_ | with_reducible refine np_block ?_)) (by kernel_rfl) ?_
                    refine xp_pure (i := 0) rfl (by kernel_rfl) (by kernel_rfl) rfl rfl rfl (pv_move (v := .pointer _) rfl rfl) ?_
                    refine xp_light (i := 1) rfl (by kernel_rfl) (by kernel_rfl) rfl rfl rfl (lv_load (v := .agg _) rfl rfl (ld_blk_a mx rfl rfl)) ?_
                    refine xp_pure (i := 2) rfl (by kernel_rfl) (by kernel_rfl) rfl rfl rfl (pv_move (v := .slice _ _ _) rfl rfl) ?_
                    refine xp_pure (i := 3) rfl (by kernel_rfl) (by kernel_rfl) rfl rfl rfl (pv_move (v := .int _ _) rfl rfl) ?_
                    refine xp_pure (i := 4) rfl (by kernel_rfl) (by kernel_rfl) rfl rfl rfl (pv_indexAddr_l rfl (sl_eq (hdA (by omega)).1) rfl (by omega)) ?_
                    refine xp_light (i := 5) rfl (by kernel_rfl) (by kernel_rfl) rfl rfl rfl (lv_load (v := .agg _) rfl rfl (by have h := ld_row' ((hdA (by omega)).2.ext hX) hA.1 (by omega) (i := i); rw [hr4] at h; exact h)) ?_
                    refine xp_heavy2 (i := 6) (j := 10) (by kernel_rfl) ?_ ?_
                    · skip
                      refine xph_val rfl rfl rfl rfl (hv_call (g := 17) rfl rfl (doB hb hI (hs.ext hX) hsl hx hG hX.size (fun kf => hs.ext (hX.keep kf hge)) q b o j) rfl) (pd (by kernel_rfl) (pd (by kernel_rfl) pn)) ?_
                      rintro v13_6 H13_6 ⟨S2, f2, G2, xa2, xc2, rfl, hb2, hx2, hI2, hq2, hg1, hg2, hK13_6⟩
                      have hX1 := hX.size
                      have hsl2 : sls l = S2.map Sd.sl := hsl.trans hq2.symm
                      have hnb2 : ¬ G2 b4_6 := fun h => (hg1 _ h).elim hnb (fun h => by have := mx.lt; omega)
                      have mx := mx.keep hK13_6 hnb
                      have hge2 : ∀ i, G2 i → H.size ≤ i := fun i h => (hg1 i h).elim (hge i) (fun h => Nat.le_trans hX1 h)
                      have hX := hX.keep hK13_6 hge
                      have hb := hb2
                      have hx := hx2
                      refine ⟨okn, ?_⟩
                      refine xp_pure (i := 7) rfl (by kernel_rfl) (by kernel_rfl) rfl rfl rfl (pv_move (v := .tuple _) rfl rfl) ?_
                      refine xp_pure (i := 8) rfl (by kernel_rfl) (by kernel_rfl) rfl rfl rfl (pv_extract (v := .agg _) rfl rfl rfl) ?_
                      refine xp_pure (i := 9) rfl (by kernel_rfl) (by kernel_rfl) rfl rfl rfl (pv_extract (v := .bool _) rfl rfl rfl) ?_
                      refine xp_heavy (i := 10) (by kernel_rfl) ?_
                      refine xph_val rfl rfl rfl rfl (hv_alloc rfl rfl) pn ?_
                      rintro v13_10 H13_10 ⟨b13_10, rfl, hN13_10⟩
                      have gb13_10 := hX.fresh hN13_10
                      have nmx_13_10 := mx.apart hN13_10
                      have hb := hb.ext hN13_10.ext
                      have hx := hx.ext hN13_10.ext
                      have mx := mx.ext hN13_10.ext
                      have hX := hX.trans hN13_10.ext
                      have m13_10 := hN13_10.blk
                      try have hnA : ¬ G b13_10 := fun h => by have := hG _ h; have := hN13_10.ge; omega
                      try have hnb3 : ¬ G2 b13_10 := fun h => by have := hg2 _ h; have := hN13_10.ge; omega
                      have hbb3 : H.size ≤ b13_10 := gb13_10.le
                      try have hG : ∀ y, G y → y < _ := fun y h => Nat.lt_of_lt_of_le (hG y h) hN13_10.ext.size
                      refine ⟨okn, ?_⟩
                      refine xp_heavy (i := 11) (by kernel_rfl) ?_
                      refine xph_store rfl rfl rfl (hv_storeA (vs := [.slice _ _ _, .slice _ _ _]) rfl rfl rfl (m13_10) rfl (by rfl) rfl) pn ?_
                      rintro v13_11 H13_11 ⟨hU13_11, hZ13_11⟩
                      have hb := hb.offT m13_10 hU13_11.but (by first | rfl | assumption)
                      have hx := hx.offT m13_10 hU13_11.but (by first | rfl | assumption)
                      have mx := mx.off hU13_11.but (by first | exact nmx_13_10 | exact ⟨mx.ne m13_10 rfl⟩ | exact ⟨mx.ne m13_10 (by assumption)⟩ | exact ⟨Ne.symm (m13_10.ne mx (by assumption))⟩)
                      have hX := hX.upd hU13_11.but gb13_10
                      have m13_10 := hU13_11.blk
                      refine ⟨okn, ?_⟩
                      refine xp_pure (i := 12) rfl (by kernel_rfl) (by kernel_rfl) rfl rfl rfl (pv_assign (v := .bool _) rfl rfl) ?_
                      refine xp_done (by kernel_rfl) ?_
                      refine xthen_normal ?_
                      refine xc_seq ?_
                      refine xc_region ?_
                      refine xl_light rfl rfl rfl (lv_load (v := .agg _) rfl rfl (ld_blk_a m13_10 rfl rfl)) ?_
                      refine xl_store rfl rfl (hv_storeA (vs := [.slice _ _ _, .slice _ _ _]) rfl rfl rfl (mx) rfl (by rfl) rfl) ?_
                      rintro v14_1 H14_1 ⟨hU14_1, hZ14_1⟩
                      have hb := hb.offT mx hU14_1.but (by first | rfl | assumption)
                      have hx := hx.offT mx hU14_1.but (by first | rfl | assumption)
                      have m13_10 := m13_10.off hU14_1.but (by first | exact nmx_13_10.symm | exact ⟨m13_10.ne mx rfl⟩ | exact ⟨m13_10.ne mx (by assumption)⟩ | exact ⟨Ne.symm (mx.ne m13_10 (by assumption))⟩)
                      have hX := hX.upd hU14_1.but gb4_6
                      have mx := hU14_1.blk
                      refine xl_nil ?_
                      refine xthen_normal ?_
                      refine xc_seq ?_
                      refine xp_start rfl (by repeat (first | with_reducible exact np_fin | with_reducible exact np_ret | with_reducible refine np_then ?_ | with_reducible refine np_block ?_)) (by kernel_rfl) ?_
                      refine xp_pure (i := 0) rfl (by kernel_rfl) (by kernel_rfl) rfl rfl rfl (pv_move (v := .bool _) rfl rfl) ?_
                      refine xp_pure (i := 1) rfl (by kernel_rfl) (by kernel_rfl) rfl rfl rfl (pv_not rfl rfl) ?_
                      refine xp_pure (i := 2) rfl (by kernel_rfl) (by kernel_rfl) rfl rfl rfl (pv_move (v := .bool _) rfl rfl) ?_
                      refine xp_pure (i := 3) rfl (by kernel_rfl) (by kernel_rfl) rfl rfl rfl (pv_move (v := .pointer _) rfl rfl) ?_
                      refine xp_pure (i := 5) rfl (by kernel_rfl) (by kernel_rfl) rfl rfl rfl (pv_fieldAddr rfl rfl) ?_
                      refine xp_light (i := 6) rfl (by kernel_rfl) (by kernel_rfl) rfl rfl rfl (lv_load (v := .slice _ _ _) rfl rfl (ld_blk mx rfl)) ?_
                      refine xp_heavy (i := 4) (by kernel_rfl) ?_
                      refine xph_val rfl rfl rfl rfl (hv_call (g := 11) rfl rfl (linesB (hb) hI2.gs) rfl) (pk (by kernel_rfl) pn) ?_
                      rintro v15_4 H15_4 ⟨a15_4, c15_4, rfl, hD15_4, hE15_4⟩
                      have hb := hb.ext hE15_4
                      have hx := hx.ext hE15_4
                      have mx := mx.ext hE15_4
                      have m13_10 := m13_10.ext hE15_4
                      have hX := hX.trans hE15_4
                      refine ⟨(okc (lv_load (v := .slice _ _ _) rfl rfl (ld_blk mx rfl)) okn), ?_⟩
                      refine xp_heavy (i := 7) (by kernel_rfl) ?_
                      refine xph_val rfl rfl rfl rfl (hv_call (g := 13) rfl rfl (sameL hD15_4 (hx.ld) (by simp) (by simp) (iv_len hI2) (iv_small hI2)) rfl) (pd (by kernel_rfl) pn) ?_
                      rintro v15_7 H15_7 ⟨r15_7, rfl, hb15_7, rfl⟩
                      obtain rfl : r15_7 = true := hb15_7.2 rfl
                      refine ⟨okn, ?_⟩
                      refine xp_pure (i := 8) rfl (by kernel_rfl) (by kernel_rfl) rfl rfl rfl (pv_not rfl rfl) ?_
                      refine xp_pure (i := 9) rfl (by kernel_rfl) (by kernel_rfl) rfl rfl rfl (pv_pick_f (v := .bool _) rfl rfl rfl) ?_
                      refine xp_done (by kernel_rfl) ?_
                      refine xthen_normal ?_
                      refine xc_cond_f rfl ?_
                      refine xc_skip ?_
                      refine xblock_normal ?_
                      refine xthen_normal ?_
                      refine xc_region ?_
                      refine xl_pure rfl rfl rfl (pv_move (v := .int _ _) rfl rfl) ?_
                      refine xl_pure rfl rfl rfl (pv_add rfl rfl rfl (fit_i64 (by omega))) ?_
                      refine xl_pure rfl rfl rfl (pv_assign (v := .int _ _) rfl rfl) ?_
                      refine xl_nil ?_
                      refine xthen_normal ?_
                      exact ⟨(i + 1, S2, f2, G2, _, _), ⟨rfl, rfl, rfl, rfl, rfl, trivial⟩, ⟨by (try simp only); omega, hI2, hsl2, fun i h => Nat.lt_of_lt_of_le (hg2 i h) (by first | (have := hU13_11.but.size; have := hU14_1.but.size; have := hN13_10.ext.size; have := hE15_4.size; omega) | (have := hU13_11.but.size; have := hU14_1.but.size; have := hE15_4.size; omega)), hge2, hnb2, mx, hb, hx, hX⟩, by (try simp only); omega⟩
                    · skip
                      refine xph_val rfl rfl rfl rfl (hv_alloc rfl rfl) (pk (by kernel_rfl) (pk (by kernel_rfl) pn)) ?_
                      rintro v13_10 H13_10 ⟨b13_10, rfl, hN13_10⟩
                      have gb13_10 := hX.fresh hN13_10
                      have nmx_13_10 := mx.apart hN13_10
                      have hb := hb.ext hN13_10.ext
                      have hx := hx.ext hN13_10.ext
                      have mx := mx.ext hN13_10.ext
                      have hX := hX.trans hN13_10.ext
                      have m13_10 := hN13_10.blk
                      try have hnA : ¬ G b13_10 := fun h => by have := hG _ h; have := hN13_10.ge; omega
                      try have hnb3 : ¬ G2 b13_10 := fun h => by have := hg2 _ h; have := hN13_10.ge; omega
                      have hbb3 : H.size ≤ b13_10 := gb13_10.le
                      try have hG : ∀ y, G y → y < _ := fun y h => Nat.lt_of_lt_of_le (hG y h) hN13_10.ext.size
                      refine ⟨(okc (lv_load (v := .agg _) rfl rfl (by have h := ld_row' ((hdA (by omega)).2.ext hX) hA.1 (by omega) (i := i); rw [hr4] at h; exact h)) (okc (lv_load (v := .agg _) rfl rfl (ld_blk_a mx rfl rfl)) okn)), ?_⟩
                      refine xp_heavy (i := 6) (by kernel_rfl) ?_
                      refine xph_val rfl rfl rfl rfl (hv_call (g := 17) rfl rfl (doB hb hI (hs.ext hX) hsl hx hG hX.size (fun kf => hs.ext (hX.keep kf hge)) q b o j) rfl) (pd (by kernel_rfl) (pd (by kernel_rfl) pn)) ?_
                      rintro v13_6 H13_6 ⟨S2, f2, G2, xa2, xc2, rfl, hb2, hx2, hI2, hq2, hg1, hg2, hK13_6⟩
                      have hX1 := hX.size
                      have hsl2 : sls l = S2.map Sd.sl := hsl.trans hq2.symm
                      have hnb2 : ¬ G2 b4_6 := fun h => (hg1 _ h).elim hnb (fun h => by have := mx.lt; omega)
                      have hnb3 : ¬ G2 b13_10 := fun h => (hg1 _ h).elim hnA (fun h => by have := m13_10.lt; omega)
                      have m13_10 := m13_10.keep hK13_6 hnA
                      have mx := mx.keep hK13_6 hnb
                      have hge2 : ∀ i, G2 i → H.size ≤ i := fun i h => (hg1 i h).elim (hge i) (fun h => Nat.le_trans hX1 h)
                      have hX := hX.keep hK13_6 hge
                      have hb := hb2
                      have hx := hx2
                      refine ⟨okn, ?_⟩
                      refine xp_pure (i := 7) rfl (by kernel_rfl) (by kernel_rfl) rfl rfl rfl (pv_move (v := .tuple _) rfl rfl) ?_
                      refine xp_pure (i := 8) rfl (by kernel_rfl) (by kernel_rfl) rfl rfl rfl (pv_extract (v := .agg _) rfl rfl rfl) ?_
                      refine xp_pure (i := 9) rfl (by kernel_rfl) (by kernel_rfl) rfl rfl rfl (pv_extract (v := .bool _) rfl rfl rfl) ?_
                      refine xp_heavy (i := 11) (by kernel_rfl) ?_
                      refine xph_store rfl rfl rfl (hv_storeA (vs := [.slice _ _ _, .slice _ _ _]) rfl rfl rfl (m13_10) rfl (by rfl) rfl) pn ?_
                      rintro v13_11 H13_11 ⟨hU13_11, hZ13_11⟩
                      have hb := hb.offT m13_10 hU13_11.but (by first | rfl | assumption)
                      have hx := hx.offT m13_10 hU13_11.but (by first | rfl | assumption)
                      have mx := mx.off hU13_11.but (by first | exact nmx_13_10 | exact ⟨mx.ne m13_10 rfl⟩ | exact ⟨mx.ne m13_10 (by assumption)⟩ | exact ⟨Ne.symm (m13_10.ne mx (by assumption))⟩)
                      have hX := hX.upd hU13_11.but gb13_10
                      have m13_10 := hU13_11.blk
                      refine ⟨okn, ?_⟩
                      refine xp_pure (i := 12) rfl (by kernel_rfl) (by kernel_rfl) rfl rfl rfl (pv_assign (v := .bool _) rfl rfl) ?_
                      refine xp_done (by kernel_rfl) ?_
                      refine xthen_normal ?_
                      refine xc_seq ?_
                      refine xc_region ?_
                      refine xl_light rfl rfl rfl (lv_load (v := .agg _) rfl rfl (ld_blk_a m13_10 rfl rfl)) ?_
                      refine xl_store rfl rfl (hv_storeA (vs := [.slice _ _ _, .slice _ _ _]) rfl rfl rfl (mx) rfl (by rfl) rfl) ?_
                      rintro v14_1 H14_1 ⟨hU14_1, hZ14_1⟩
                      have hb := hb.offT mx hU14_1.but (by first | rfl | assumption)
                      have hx := hx.offT mx hU14_1.but (by first | rfl | assumption)
                      have m13_10 := m13_10.off hU14_1.but (by first | exact nmx_13_10.symm | exact ⟨m13_10.ne mx rfl⟩ | exact ⟨m13_10.ne mx (by assumption)⟩ | exact ⟨Ne.symm (mx.ne m13_10 (by assumption))⟩)
                      have hX := hX.upd hU14_1.but gb4_6
                      have mx := hU14_1.blk
                      refine xl_nil ?_
                      refine xthen_normal ?_
                      refine xc_seq ?_
                      refine xp_start rfl (by repeat (first | with_reducible exact np_fin | with_reducible exact np_ret | with_reducible refine np_then ?_ | with_reducible refine np_block ?_)) (by kernel_rfl) ?_
                      refine xp_pure (i := 0) rfl (by kernel_rfl) (by kernel_rfl) rfl rfl rfl (pv_move (v := .bool _) rfl rfl) ?_
                      refine xp_pure (i := 1) rfl (by kernel_rfl) (by kernel_rfl) rfl rfl rfl (pv_not rfl rfl) ?_
                      refine xp_pure (i := 2) rfl (by kernel_rfl) (by kernel_rfl) rfl rfl rfl (pv_move (v := .bool _) rfl rfl) ?_
                      refine xp_pure (i := 3) rfl (by kernel_rfl) (by kernel_rfl) rfl rfl rfl (pv_move (v := .pointer _) rfl rfl) ?_
                      refine xp_pure (i := 5) rfl (by kernel_rfl) (by kernel_rfl) rfl rfl rfl (pv_fieldAddr rfl rfl) ?_
                      refine xp_light (i := 6) rfl (by kernel_rfl) (by kernel_rfl) rfl rfl rfl (lv_load (v := .slice _ _ _) rfl rfl (ld_blk mx rfl)) ?_
                      refine xp_heavy (i := 4) (by kernel_rfl) ?_
                      refine xph_val rfl rfl rfl rfl (hv_call (g := 11) rfl rfl (linesB (hb) hI2.gs) rfl) (pk (by kernel_rfl) pn) ?_
                      rintro v15_4 H15_4 ⟨a15_4, c15_4, rfl, hD15_4, hE15_4⟩
                      have hb := hb.ext hE15_4
                      have hx := hx.ext hE15_4
                      have mx := mx.ext hE15_4
                      have m13_10 := m13_10.ext hE15_4
                      have hX := hX.trans hE15_4
                      refine ⟨(okc (lv_load (v := .slice _ _ _) rfl rfl (ld_blk mx rfl)) okn), ?_⟩
                      refine xp_heavy (i := 7) (by kernel_rfl) ?_
                      refine xph_val rfl rfl rfl rfl (hv_call (g := 13) rfl rfl (sameL hD15_4 (hx.ld) (by simp) (by simp) (iv_len hI2) (iv_small hI2)) rfl) (pd (by kernel_rfl) pn) ?_
                      rintro v15_7 H15_7 ⟨r15_7, rfl, hb15_7, rfl⟩
                      obtain rfl : r15_7 = true := hb15_7.2 rfl
                      refine ⟨okn, ?_⟩
                      refine xp_pure (i := 8) rfl (by kernel_rfl) (by kernel_rfl) rfl rfl rfl (pv_not rfl rfl) ?_
                      refine xp_pure (i := 9) rfl (by kernel_rfl) (by kernel_rfl) rfl rfl rfl (pv_pick_f (v := .bool _) rfl rfl rfl) ?_
                      refine xp_done (by kernel_rfl) ?_
                      refine xthen_normal ?_
                      refine xc_cond_f rfl ?_
                      refine xc_skip ?_
                      refine xblock_normal ?_
                      refine xthen_normal ?_
                      refine xc_region ?_
                      refine xl_pure rfl rfl rfl (pv_move (v := .int _ _) rfl rfl) ?_
                      refine xl_pure rfl rfl rfl (pv_add rfl rfl rfl (fit_i64 (by omega))) ?_
                      refine xl_pure rfl rfl rfl (pv_assign (v := .int _ _) rfl rfl) ?_
                      refine xl_nil ?_
                      refine xthen_normal ?_
                      exact ⟨(i + 1, S2, f2, G2, _, _), ⟨rfl, rfl, rfl, rfl, rfl, trivial⟩, ⟨by (try simp only); omega, hI2, hsl2, fun i h => Nat.lt_of_lt_of_le (hg2 i h) (by first | (have := hU13_11.but.size; have := hU14_1.but.size; have := hN13_10.ext.size; have := hE15_4.size; omega) | (have := hU13_11.but.size; have := hU14_1.but.size; have := hE15_4.size; omega)), hge2, hnb2, mx, hb, hx, hX⟩, by (try simp only); omega⟩
                  · exact absurd (by decide) h11_6
                · skip
                  refine xl_pure rfl rfl rfl (pv_move (v := .bool _) rfl rfl) ?_
                  refine xl_skip rfl rfl rfl ?_
                  refine xl_skip rfl rfl rfl ?_
                  refine xl_pure rfl rfl rfl (pv_pick_f (v := .bool _) rfl rfl rfl) ?_
                  refine xl_nil ?_
                  refine xthen_normal ?_
                  refine xc_cond_f rfl ?_
                  refine xc_exit ?_
                  refine xthen_exit ?_
                  refine xthen_exit ?_
                  refine xblock_same ?_
                  refine xthen_normal ?_
                  refine xc_seq ?_
                  refine xp_start rfl (by repeat (first | with_reducible exact np_fin | with_reducible exact np_ret | with_reducible refine np_then ?_ | with_reducible refine np_block ?_)) (by kernel_rfl) ?_
                  refine xp_pure (i := 0) rfl (by kernel_rfl) (by kernel_rfl) rfl rfl rfl (pv_move (v := .int _ _) rfl rfl) ?_
                  refine xp_ndec (i := 1) rfl (by kernel_rfl) (by kernel_rfl) rfl rfl rfl (pv_neq rfl rfl rfl) (fun h17_1 => ?_) (fun h17_1 => ?_)
                  · skip
                    refine xp_pure (i := 2) rfl (by kernel_rfl) (by kernel_rfl) rfl rfl rfl (pv_move (v := .bool _) rfl rfl) ?_
                    refine xp_pure (i := 3) rfl (by kernel_rfl) (by kernel_rfl) rfl rfl rfl (pv_move (v := .pointer _) rfl rfl) ?_
                    refine xp_pure (i := 5) rfl (by kernel_rfl) (by kernel_rfl) rfl rfl rfl (pv_fieldAddr rfl rfl) ?_
                    refine xp_light (i := 6) rfl (by kernel_rfl) (by kernel_rfl) rfl rfl rfl (lv_load (v := .slice _ _ _) rfl rfl (ld_blk mx rfl)) ?_
                    refine xp_heavy (i := 4) (by kernel_rfl) ?_
                    refine xph_val rfl rfl rfl rfl (hv_call (g := 11) rfl rfl (linesB (hb) hI.gs) rfl) (pk (by kernel_rfl) pn) ?_
                    rintro v17_4 H17_4 ⟨a17_4, c17_4, rfl, hD17_4, hE17_4⟩
                    have hb := hb.ext hE17_4
                    have hx := hx.ext hE17_4
                    have mx := mx.ext hE17_4
                    have hX := hX.trans hE17_4
                    refine ⟨(okc (lv_load (v := .slice _ _ _) rfl rfl (ld_blk mx rfl)) okn), ?_⟩
                    refine xp_heavy (i := 7) (by kernel_rfl) ?_
                    refine xph_val rfl rfl rfl rfl (hv_call (g := 13) rfl rfl (sameL hD17_4 (hx.ld) (by simp) (by simp) (iv_len hI) (iv_small hI)) rfl) (pd (by kernel_rfl) pn) ?_
                    rintro v17_7 H17_7 ⟨r17_7, rfl, hb17_7, rfl⟩
                    obtain rfl : r17_7 = true := hb17_7.2 rfl
                    refine ⟨okn, ?_⟩
                    refine xp_pure (i := 8) rfl (by kernel_rfl) (by kernel_rfl) rfl rfl rfl (pv_pick_f (v := .bool _) rfl rfl rfl) ?_
                    refine xp_pure (i := 9) rfl (by kernel_rfl) (by kernel_rfl) rfl rfl rfl (pv_move (v := .bool _) rfl rfl) ?_
                    refine xp_heavy (i := 10) (by kernel_rfl) ?_
                    refine xph_val rfl rfl rfl rfl (hv_call (g := 8) rfl rfl (awake) rfl) pn ?_
                    rintro v17_10 H17_10 ⟨rfl, hE17_10⟩
                    have hb := hb.ext hE17_10
                    have hx := hx.ext hE17_10
                    have mx := mx.ext hE17_10
                    have hX := hX.trans hE17_10
                    refine ⟨okn, ?_⟩
                    refine xp_pure (i := 11) rfl (by kernel_rfl) (by kernel_rfl) rfl rfl rfl (pv_pick_t (v := .bool _) rfl rfl rfl) ?_
                    refine xp_pure (i := 12) rfl (by kernel_rfl) (by kernel_rfl) rfl rfl rfl (pv_assign (v := .bool _) rfl rfl) ?_
                    refine xp_done (by kernel_rfl) ?_
                    refine xthen_normal ?_
                    refine xc_ret ?_
                    refine fin_ret (res1 (v := .bool _) rfl rfl) ?_
                    exact ⟨rfl, hX⟩
                  · exact absurd (by decide) h17_1
            · exact absurd (by decide) h8_7
          · exact absurd (by decide) h8_2
      · skip
        obtain ⟨G, hG, hge⟩ : ∃ G : Nat → Prop, (∀ i, G i → i < Array.size H3_2) ∧ ∀ i, G i → H.size ≤ i := ⟨fun _ => False, fun i h => h.elim, fun i h => h.elim⟩
        refine xl_pure rfl rfl rfl (pv_move (v := .tuple _) rfl rfl) ?_
        refine xl_pure rfl rfl rfl (pv_extract (v := .pointer _) rfl rfl rfl) ?_
        refine xl_pure rfl rfl rfl (pv_extract (v := .int _ _) rfl rfl rfl) ?_
        refine xl_pure rfl rfl rfl (pv_assign (v := .pointer _) rfl rfl) ?_
        refine xl_pure rfl rfl rfl (pv_assign (v := .int _ _) rfl rfl) ?_
        refine xl_nil ?_
        refine xthen_normal ?_
        refine xc_seq ?_
        refine xc_region ?_
        refine xl_pure rfl rfl rfl (pv_move (v := .slice _ _ _) rfl rfl) ?_
        refine xl_pure rfl rfl rfl (pv_move (v := .slice _ _ _) rfl rfl) ?_
        refine xl_heavy rfl rfl rfl (hv_call (g := 20) rfl rfl (dload (B := H.size) (G := G) (hs.ext hX) (by omega) ((hE.new hge).ext hX) (by omega) (fun e he => few_all hfew he) hG) rfl) ?_
        rintro v4_2 H4_2 ⟨hv4_2, hE4_2⟩
        have hX := hX.trans hE4_2
        replace hv4_2 := hv4_2.resolve_left (fun h => hno h.1)
        obtain ⟨-, rfl⟩ := hv4_2
        refine xl_pure rfl rfl rfl (pv_move (v := .tuple _) rfl rfl) ?_
        refine xl_pure rfl rfl rfl (pv_extract (v := .agg _) rfl rfl rfl) ?_
        refine xl_pure rfl rfl rfl (pv_extract (v := .int _ _) rfl rfl rfl) ?_
        refine xl_heavy rfl rfl rfl (hv_alloc rfl rfl) ?_
        rintro v4_6 H4_6 ⟨b4_6, rfl, hN4_6⟩
        have gb4_6 := hX.fresh hN4_6
        have hX := hX.trans hN4_6.ext
        have m4_6 := hN4_6.blk
        try have hGf : ∀ y, G y → y < _ := fun y h => Nat.lt_of_lt_of_le (hG y h) (Nat.le_trans hE4_2.size hN4_6.ext.size)
        have hbB := gb4_6.le
        try have hnb0 : ¬ G b4_6 := fun h => by have := hG _ h; have := hE4_2.size; have := hN4_6.ge; omega
        refine xl_store rfl rfl (hv_storeA (vs := [.slice _ _ _, .slice _ _ _]) rfl rfl rfl (m4_6) rfl (by rfl) rfl) ?_
        rintro v4_7 H4_7 ⟨hU4_7, hZ4_7⟩
        have hX := hX.upd hU4_7.but gb4_6
        have m4_6 := hU4_7.blk
        try have hGf : ∀ y, G y → y < _ := fun y h => Nat.lt_of_lt_of_le (hGf y h) hU4_7.but.size
        refine xl_pure rfl rfl rfl (pv_assign (v := .int _ _) rfl rfl) ?_
        refine xl_nil ?_
        refine xthen_normal ?_
        refine xc_seq ?_
        refine xc_seq ?_
        refine xc_region ?_
        refine xl_pure rfl rfl rfl (pv_move (v := .slice _ _ _) rfl rfl) ?_
        refine xl_pure rfl rfl rfl (pv_len_l rfl rfl) ?_
        refine xl_dec rfl rfl rfl (pv_eql rfl rfl rfl) (fun h5_2 => ?_) (fun h5_2 => ?_)
        · skip
          refine xl_nil ?_
          refine xthen_normal ?_
          refine xc_cond_t rfl ?_
          refine xc_seq ?_
          have hXz := hX.size
          have m4_z := m4_6.lt
          refine xc_region ?_
          refine xl_pure rfl rfl rfl (pv_move (v := .slice _ _ _) rfl rfl) ?_
          refine xl_heavy rfl rfl rfl (hv_call (g := 7) rfl rfl (new_ (hs.ext hX) (by omega)) rfl) ?_
          rintro v6_1 H6_1 ⟨hv6_1, hE6_1⟩
          have m4_6 := m4_6.ext hE6_1
          have hX := hX.trans hE6_1
          rcases hv6_1 with ⟨hok, bp, rfl, hb⟩ | ⟨hno2, rfl⟩
          · skip
            obtain ⟨G, hb, hG, hge, hnb0⟩ : ∃ G, BB _ bp G (newS l) (fun _ => none) ∧ (∀ i, G i → i < _) ∧ (∀ i, G i → H.size ≤ i) ∧ ¬ G b4_6 := ⟨_, hb, fun i h => h.2, fun i h => Nat.le_trans hXz h.1, fun h => by have := h.1; have := m4_z; omega⟩
            have hI := new_iv hok
            have hsl := newS_sl (l := l)
            obtain ⟨S, hSe⟩ : ∃ S, S = newS l := ⟨_, rfl⟩
            rw [← hSe] at hb hI hsl
            obtain ⟨f, hfe⟩ : ∃ f : Fn, f = (fun _ => none) := ⟨_, rfl⟩
            rw [← hfe] at hb hI
            refine xl_pure rfl rfl rfl (pv_move (v := .tuple _) rfl rfl) ?_
            refine xl_pure rfl rfl rfl (pv_extract (v := .pointer _) rfl rfl rfl) ?_
            refine xl_pure rfl rfl rfl (pv_extract (v := .int _ _) rfl rfl rfl) ?_
            refine xl_pure rfl rfl rfl (pv_assign (v := .pointer _) rfl rfl) ?_
            refine xl_pure rfl rfl rfl (pv_assign (v := .int _ _) rfl rfl) ?_
            refine xl_nil ?_
            refine xthen_normal ?_
            refine xc_region ?_
            refine xl_pure rfl rfl rfl (pv_move (v := .slice _ _ _) rfl rfl) ?_
            refine xl_heavy rfl rfl rfl (hv_call (g := 12) rfl rfl (dnew (B := H.size) (G := G) (hs.ext hX) (by omega) hG hX.size) rfl) ?_
            rintro v7_1 H7_1 ⟨hv7_1, hE7_1⟩
            have m4_6 := m4_6.ext hE7_1
            have hb := hb.ext hE7_1
            have hX := hX.trans hE7_1
            obtain ⟨-, xa, xc, rfl, hx⟩ := hv7_1.resolve_right (fun h => h.1 hok)
            rw [← newS_len, ← hSe] at *
            refine xl_pure rfl rfl rfl (pv_move (v := .tuple _) rfl rfl) ?_
            refine xl_pure rfl rfl rfl (pv_extract (v := .agg _) rfl rfl rfl) ?_
            refine xl_pure rfl rfl rfl (pv_extract (v := .int _ _) rfl rfl rfl) ?_
            refine xl_store rfl rfl (hv_storeA (vs := [.slice _ _ _, .slice _ _ _]) rfl rfl rfl (m4_6) rfl (by rfl) rfl) ?_
            rintro v7_5 H7_5 ⟨hU7_5, hZ7_5⟩
            have hb := hb.offT m4_6 hU7_5.but (by first | rfl | assumption)
            have hx := hx.offT m4_6 hU7_5.but (by first | rfl | assumption)
            have hX := hX.upd hU7_5.but gb4_6
            have m4_6 := hU7_5.blk
            try have hGf : ∀ y, G y → y < _ := fun y h => Nat.lt_of_lt_of_le (hG y h) (Nat.le_trans hE7_1.size hU7_5.but.size)
            refine xl_pure rfl rfl rfl (pv_assign (v := .int _ _) rfl rfl) ?_
            refine xl_nil ?_
            refine xthen_normal ?_
            refine xc_seq ?_
            refine xc_seq ?_
            refine xc_region ?_
            refine xl_pure rfl rfl rfl (pv_move (v := .int _ _) rfl rfl) ?_
            refine xl_pure rfl rfl rfl (pv_move (v := .int _ _) rfl rfl) ?_
            refine xl_ndec rfl rfl rfl (pv_neq rfl rfl rfl) (fun h8_2 => ?_) (fun h8_2 => ?_)
            · skip
              refine xl_pure rfl rfl rfl (pv_move (v := .bool _) rfl rfl) ?_
              refine xl_pure rfl rfl rfl (pv_move (v := .pointer _) rfl rfl) ?_
              refine xl_pure rfl rfl rfl (pv_neq_pn rfl rfl rfl) ?_
              refine xl_pure rfl rfl rfl (pv_move (v := .int _ _) rfl rfl) ?_
              refine xl_dec rfl rfl rfl (pv_eql rfl rfl rfl) (fun h8_7 => ?_) (fun h8_7 => ?_)
              · skip
                refine xl_pure rfl rfl rfl (pv_neq_b rfl rfl rfl) ?_
                refine xl_pure rfl rfl rfl (pv_pick_f (v := .bool _) rfl rfl rfl) ?_
                refine xl_nil ?_
                refine xthen_normal ?_
                refine xc_cond_f rfl ?_
                refine xc_skip ?_
                refine xthen_normal ?_
                refine xc_seq ?_
                refine xc_seq ?_
                refine xc_region ?_
                refine xl_pure rfl rfl rfl (pv_assign (v := .int _ _) rfl rfl) ?_
                refine xl_nil ?_
                refine xthen_normal ?_
                refine xc_block ?_
                refine xc_loop (τ := Nat × List Sd × Fn × (Nat → Prop) × Option Addr × Nat) (fun t => [(2, .slice a3 A.length c3), (7, .pointer (some ⟨bp, 0, none⟩)), (8, .int .i64 0), (9, .pointer (some ⟨b4_6, 0, none⟩)), (11, .int .i64 (t.1 : Nat))]) (fun t H' => (t.1 ≤ A.length) ∧ (IV t.2.1 t.2.2.1) ∧ (sls l = t.2.1.map Sd.sl) ∧ (∀ y, t.2.2.2.1 y → y < H'.size) ∧ (∀ y, t.2.2.2.1 y → H.size ≤ y) ∧ (¬ t.2.2.2.1 b4_6) ∧ (Blk H' b4_6 [.slice a l.length c, .slice t.2.2.2.2.1 t.2.1.length t.2.2.2.2.2] 45) ∧ (BB H' bp t.2.2.2.1 t.2.1 t.2.2.1) ∧ (LX H.size H' t.2.2.2.1 t.2.2.2.2.1 t.2.2.2.2.2 (t.2.1.map lnS)) ∧ (Ext H H')) (fun t H' => A.length - t.1) (0, S, f, G, xa, xc) ?_ ?_ ?_
                · exact ⟨rfl, rfl, rfl, rfl, rfl, trivial⟩
                · skip
                  exact ⟨Nat.zero_le _, hI, hsl, hGf, hge, hnb0, m4_6, hb, hx, hX⟩
                · intro σ
                  clear hX m4_6 hb hx
                  rintro ⟨i, S, f, G, xa, xc⟩ Hl11 ⟨hi, hI, hsl, hG, hge, hnb, mx, hb, hx, hX⟩
                  replace hi : i ≤ A.length := hi
                  replace hI : IV S f := hI
                  replace hsl : sls l = S.map Sd.sl := hsl
                  replace hG : ∀ y, G y → y < Hl11.size := hG
                  replace hge : ∀ y, G y → H.size ≤ y := hge
                  replace hnb : ¬ G b4_6 := hnb
                  replace mx : Blk Hl11 b4_6 [.slice a l.length c, .slice xa S.length xc] 45 := mx
                  replace hb : BB Hl11 bp G S f := hb
                  replace hx : LX H.size Hl11 G xa xc (S.map lnS) := hx
                  replace hX : Ext H Hl11 := hX
                  show XC _ _ _ (upds σ [(2, .slice a3 A.length c3), (7, .pointer (some ⟨bp, 0, none⟩)), (8, .int .i64 0), (9, .pointer (some ⟨b4_6, 0, none⟩)), (11, .int .i64 (i : Nat))]) _
                  refine xc_seq ?_
                  refine xc_seq ?_
                  refine xc_region ?_
                  refine xl_pure rfl rfl rfl (pv_move (v := .int _ _) rfl rfl) ?_
                  refine xl_pure rfl rfl rfl (pv_move (v := .slice _ _ _) rfl rfl) ?_
                  refine xl_pure rfl rfl rfl (pv_len_l rfl rfl) ?_
                  refine xl_dec rfl rfl rfl (pv_lss rfl rfl rfl) (fun h11_3 => ?_) (fun h11_3 => ?_)
                  · skip
                    refine xl_pure rfl rfl rfl (pv_move (v := .bool _) rfl rfl) ?_
                    refine xl_pure rfl rfl rfl (pv_move (v := .int _ _) rfl rfl) ?_
                    refine xl_dec rfl rfl rfl (pv_eql rfl rfl rfl) (fun h11_6 => ?_) (fun h11_6 => ?_)
                    · skip
                      refine xl_pure rfl rfl rfl (pv_pick_t (v := .bool _) rfl rfl rfl) ?_
                      refine xl_nil ?_
                      refine xthen_normal ?_
                      refine xc_cond_t rfl ?_
                      refine xc_skip ?_
                      refine xthen_normal ?_
                      refine xc_seq ?_
                      refine xc_block ?_
                      refine xc_seq ?_
                      obtain ⟨q, b, o, j, hr4⟩ := row4 hA.1 (i := i) (by omega)
                      refine xp_start rfl (by repeat (first | with_reducible exact np_fin | with_reducible exact np_ret | with_reducible refine np_then ?_ | with_reducible refine np_block ?_)) (by kernel_rfl) ?_
                      refine xp_pure (i := 0) rfl (by kernel_rfl) (by kernel_rfl) rfl rfl rfl (pv_move (v := .pointer _) rfl rfl) ?_
                      refine xp_light (i := 1) rfl (by kernel_rfl) (by kernel_rfl) rfl rfl rfl (lv_load (v := .agg _) rfl rfl (ld_blk_a mx rfl rfl)) ?_
                      refine xp_pure (i := 2) rfl (by kernel_rfl) (by kernel_rfl) rfl rfl rfl (pv_move (v := .slice _ _ _) rfl rfl) ?_
                      refine xp_pure (i := 3) rfl (by kernel_rfl) (by kernel_rfl) rfl rfl rfl (pv_move (v := .int _ _) rfl rfl) ?_
                      refine xp_pure (i := 4) rfl (by kernel_rfl) (by kernel_rfl) rfl rfl rfl (pv_indexAddr_l rfl (sl_eq (hdA (by omega)).1) rfl (by omega)) ?_
                      refine xp_light (i := 5) rfl (by kernel_rfl) (by kernel_rfl) rfl rfl rfl (lv_load (v := .agg _) rfl rfl (by have h := ld_row' ((hdA (by omega)).2.ext hX) hA.1 (by omega) (i := i); rw [hr4] at h; exact h)) ?_
                      refine xp_heavy2 (i := 6) (j := 10) (by kernel_rfl) ?_ ?_
                      · skip
                        refine xph_val rfl rfl rfl rfl (hv_call (g := 17) rfl rfl (doB hb hI (hs.ext hX) hsl hx hG hX.size (fun kf => hs.ext (hX.keep kf hge)) q b o j) rfl) (pd (by kernel_rfl) (pd (by kernel_rfl) pn)) ?_
                        rintro v13_6 H13_6 ⟨S2, f2, G2, xa2, xc2, rfl, hb2, hx2, hI2, hq2, hg1, hg2, hK13_6⟩
                        have hX1 := hX.size
                        have hsl2 : sls l = S2.map Sd.sl := hsl.trans hq2.symm
                        have hnb2 : ¬ G2 b4_6 := fun h => (hg1 _ h).elim hnb (fun h => by have := mx.lt; omega)
                        have mx := mx.keep hK13_6 hnb
                        have hge2 : ∀ i, G2 i → H.size ≤ i := fun i h => (hg1 i h).elim (hge i) (fun h => Nat.le_trans hX1 h)
                        have hX := hX.keep hK13_6 hge
                        have hb := hb2
                        have hx := hx2
                        refine ⟨okn, ?_⟩
                        refine xp_pure (i := 7) rfl (by kernel_rfl) (by kernel_rfl) rfl rfl rfl (pv_move (v := .tuple _) rfl rfl) ?_
                        refine xp_pure (i := 8) rfl (by kernel_rfl) (by kernel_rfl) rfl rfl rfl (pv_extract (v := .agg _) rfl rfl rfl) ?_
                        refine xp_pure (i := 9) rfl (by kernel_rfl) (by kernel_rfl) rfl rfl rfl (pv_extract (v := .bool _) rfl rfl rfl) ?_
                        refine xp_heavy (i := 10) (by kernel_rfl) ?_
                        refine xph_val rfl rfl rfl rfl (hv_alloc rfl rfl) pn ?_
                        rintro v13_10 H13_10 ⟨b13_10, rfl, hN13_10⟩
                        have gb13_10 := hX.fresh hN13_10
                        have nmx_13_10 := mx.apart hN13_10
                        have hb := hb.ext hN13_10.ext
                        have hx := hx.ext hN13_10.ext
                        have mx := mx.ext hN13_10.ext
                        have hX := hX.trans hN13_10.ext
                        have m13_10 := hN13_10.blk
                        try have hnA : ¬ G b13_10 := fun h => by have := hG _ h; have := hN13_10.ge; omega
                        try have hnb3 : ¬ G2 b13_10 := fun h => by have := hg2 _ h; have := hN13_10.ge; omega
                        have hbb3 : H.size ≤ b13_10 := gb13_10.le
                        try have hG : ∀ y, G y → y < _ := fun y h => Nat.lt_of_lt_of_le (hG y h) hN13_10.ext.size
                        refine ⟨okn, ?_⟩
                        refine xp_heavy (i := 11) (by kernel_rfl) ?_
                        refine xph_store rfl rfl rfl (hv_storeA (vs := [.slice _ _ _, .slice _ _ _]) rfl rfl rfl (m13_10) rfl (by rfl) rfl) pn ?_
                        rintro v13_11 H13_11 ⟨hU13_11, hZ13_11⟩
                        have hb := hb.offT m13_10 hU13_11.but (by first | rfl | assumption)
                        have hx := hx.offT m13_10 hU13_11.but (by first | rfl | assumption)
                        have mx := mx.off hU13_11.but (by first | exact nmx_13_10 | exact ⟨mx.ne m13_10 rfl⟩ | exact ⟨mx.ne m13_10 (by assumption)⟩ | exact ⟨Ne.symm (m13_10.ne mx (by assumption))⟩)
                        have hX := hX.upd hU13_11.but gb13_10
                        have m13_10 := hU13_11.blk
                        refine ⟨okn, ?_⟩
                        refine xp_pure (i := 12) rfl (by kernel_rfl) (by kernel_rfl) rfl rfl rfl (pv_assign (v := .bool _) rfl rfl) ?_
                        refine xp_done (by kernel_rfl) ?_
                        refine xthen_normal ?_
                        refine xc_seq ?_
                        refine xc_region ?_
                        refine xl_light rfl rfl rfl (lv_load (v := .agg _) rfl rfl (ld_blk_a m13_10 rfl rfl)) ?_
                        refine xl_store rfl rfl (hv_storeA (vs := [.slice _ _ _, .slice _ _ _]) rfl rfl rfl (mx) rfl (by rfl) rfl) ?_
                        rintro v14_1 H14_1 ⟨hU14_1, hZ14_1⟩
                        have hb := hb.offT mx hU14_1.but (by first | rfl | assumption)
                        have hx := hx.offT mx hU14_1.but (by first | rfl | assumption)
                        have m13_10 := m13_10.off hU14_1.but (by first | exact nmx_13_10.symm | exact ⟨m13_10.ne mx rfl⟩ | exact ⟨m13_10.ne mx (by assumption)⟩ | exact ⟨Ne.symm (mx.ne m13_10 (by assumption))⟩)
                        have hX := hX.upd hU14_1.but gb4_6
                        have mx := hU14_1.blk
                        refine xl_nil ?_
                        refine xthen_normal ?_
                        refine xc_seq ?_
                        refine xp_start rfl (by repeat (first | with_reducible exact np_fin | with_reducible exact np_ret | with_reducible refine np_then ?_ | with_reducible refine np_block ?_)) (by kernel_rfl) ?_
                        refine xp_pure (i := 0) rfl (by kernel_rfl) (by kernel_rfl) rfl rfl rfl (pv_move (v := .bool _) rfl rfl) ?_
                        refine xp_pure (i := 1) rfl (by kernel_rfl) (by kernel_rfl) rfl rfl rfl (pv_not rfl rfl) ?_
                        refine xp_pure (i := 2) rfl (by kernel_rfl) (by kernel_rfl) rfl rfl rfl (pv_move (v := .bool _) rfl rfl) ?_
                        refine xp_pure (i := 3) rfl (by kernel_rfl) (by kernel_rfl) rfl rfl rfl (pv_move (v := .pointer _) rfl rfl) ?_
                        refine xp_pure (i := 5) rfl (by kernel_rfl) (by kernel_rfl) rfl rfl rfl (pv_fieldAddr rfl rfl) ?_
                        refine xp_light (i := 6) rfl (by kernel_rfl) (by kernel_rfl) rfl rfl rfl (lv_load (v := .slice _ _ _) rfl rfl (ld_blk mx rfl)) ?_
                        refine xp_heavy (i := 4) (by kernel_rfl) ?_
                        refine xph_val rfl rfl rfl rfl (hv_call (g := 11) rfl rfl (linesB (hb) hI2.gs) rfl) (pk (by kernel_rfl) pn) ?_
                        rintro v15_4 H15_4 ⟨a15_4, c15_4, rfl, hD15_4, hE15_4⟩
                        have hb := hb.ext hE15_4
                        have hx := hx.ext hE15_4
                        have mx := mx.ext hE15_4
                        have m13_10 := m13_10.ext hE15_4
                        have hX := hX.trans hE15_4
                        refine ⟨(okc (lv_load (v := .slice _ _ _) rfl rfl (ld_blk mx rfl)) okn), ?_⟩
                        refine xp_heavy (i := 7) (by kernel_rfl) ?_
                        refine xph_val rfl rfl rfl rfl (hv_call (g := 13) rfl rfl (sameL hD15_4 (hx.ld) (by simp) (by simp) (iv_len hI2) (iv_small hI2)) rfl) (pd (by kernel_rfl) pn) ?_
                        rintro v15_7 H15_7 ⟨r15_7, rfl, hb15_7, rfl⟩
                        obtain rfl : r15_7 = true := hb15_7.2 rfl
                        refine ⟨okn, ?_⟩
                        refine xp_pure (i := 8) rfl (by kernel_rfl) (by kernel_rfl) rfl rfl rfl (pv_not rfl rfl) ?_
                        refine xp_pure (i := 9) rfl (by kernel_rfl) (by kernel_rfl) rfl rfl rfl (pv_pick_f (v := .bool _) rfl rfl rfl) ?_
                        refine xp_done (by kernel_rfl) ?_
                        refine xthen_normal ?_
                        refine xc_cond_f rfl ?_
                        refine xc_skip ?_
                        refine xblock_normal ?_
                        refine xthen_normal ?_
                        refine xc_region ?_
                        refine xl_pure rfl rfl rfl (pv_move (v := .int _ _) rfl rfl) ?_
                        refine xl_pure rfl rfl rfl (pv_add rfl rfl rfl (fit_i64 (by omega))) ?_
                        refine xl_pure rfl rfl rfl (pv_assign (v := .int _ _) rfl rfl) ?_
                        refine xl_nil ?_
                        refine xthen_normal ?_
                        exact ⟨(i + 1, S2, f2, G2, _, _), ⟨rfl, rfl, rfl, rfl, rfl, trivial⟩, ⟨by (try simp only); omega, hI2, hsl2, fun i h => Nat.lt_of_lt_of_le (hg2 i h) (by first | (have := hU13_11.but.size; have := hU14_1.but.size; have := hN13_10.ext.size; have := hE15_4.size; omega) | (have := hU13_11.but.size; have := hU14_1.but.size; have := hE15_4.size; omega)), hge2, hnb2, mx, hb, hx, hX⟩, by (try simp only); omega⟩
                      · skip
                        refine xph_val rfl rfl rfl rfl (hv_alloc rfl rfl) (pk (by kernel_rfl) (pk (by kernel_rfl) pn)) ?_
                        rintro v13_10 H13_10 ⟨b13_10, rfl, hN13_10⟩
                        have gb13_10 := hX.fresh hN13_10
                        have nmx_13_10 := mx.apart hN13_10
                        have hb := hb.ext hN13_10.ext
                        have hx := hx.ext hN13_10.ext
                        have mx := mx.ext hN13_10.ext
                        have hX := hX.trans hN13_10.ext
                        have m13_10 := hN13_10.blk
                        try have hnA : ¬ G b13_10 := fun h => by have := hG _ h; have := hN13_10.ge; omega
                        try have hnb3 : ¬ G2 b13_10 := fun h => by have := hg2 _ h; have := hN13_10.ge; omega
                        have hbb3 : H.size ≤ b13_10 := gb13_10.le
                        try have hG : ∀ y, G y → y < _ := fun y h => Nat.lt_of_lt_of_le (hG y h) hN13_10.ext.size
                        refine ⟨(okc (lv_load (v := .agg _) rfl rfl (by have h := ld_row' ((hdA (by omega)).2.ext hX) hA.1 (by omega) (i := i); rw [hr4] at h; exact h)) (okc (lv_load (v := .agg _) rfl rfl (ld_blk_a mx rfl rfl)) okn)), ?_⟩
                        refine xp_heavy (i := 6) (by kernel_rfl) ?_
                        refine xph_val rfl rfl rfl rfl (hv_call (g := 17) rfl rfl (doB hb hI (hs.ext hX) hsl hx hG hX.size (fun kf => hs.ext (hX.keep kf hge)) q b o j) rfl) (pd (by kernel_rfl) (pd (by kernel_rfl) pn)) ?_
                        rintro v13_6 H13_6 ⟨S2, f2, G2, xa2, xc2, rfl, hb2, hx2, hI2, hq2, hg1, hg2, hK13_6⟩
                        have hX1 := hX.size
                        have hsl2 : sls l = S2.map Sd.sl := hsl.trans hq2.symm
                        have hnb2 : ¬ G2 b4_6 := fun h => (hg1 _ h).elim hnb (fun h => by have := mx.lt; omega)
                        have hnb3 : ¬ G2 b13_10 := fun h => (hg1 _ h).elim hnA (fun h => by have := m13_10.lt; omega)
                        have m13_10 := m13_10.keep hK13_6 hnA
                        have mx := mx.keep hK13_6 hnb
                        have hge2 : ∀ i, G2 i → H.size ≤ i := fun i h => (hg1 i h).elim (hge i) (fun h => Nat.le_trans hX1 h)
                        have hX := hX.keep hK13_6 hge
                        have hb := hb2
                        have hx := hx2
                        refine ⟨okn, ?_⟩
                        refine xp_pure (i := 7) rfl (by kernel_rfl) (by kernel_rfl) rfl rfl rfl (pv_move (v := .tuple _) rfl rfl) ?_
                        refine xp_pure (i := 8) rfl (by kernel_rfl) (by kernel_rfl) rfl rfl rfl (pv_extract (v := .agg _) rfl rfl rfl) ?_
                        refine xp_pure (i := 9) rfl (by kernel_rfl) (by kernel_rfl) rfl rfl rfl (pv_extract (v := .bool _) rfl rfl rfl) ?_
                        refine xp_heavy (i := 11) (by kernel_rfl) ?_
                        refine xph_store rfl rfl rfl (hv_storeA (vs := [.slice _ _ _, .slice _ _ _]) rfl rfl rfl (m13_10) rfl (by rfl) rfl) pn ?_
                        rintro v13_11 H13_11 ⟨hU13_11, hZ13_11⟩
                        have hb := hb.offT m13_10 hU13_11.but (by first | rfl | assumption)
                        have hx := hx.offT m13_10 hU13_11.but (by first | rfl | assumption)
                        have mx := mx.off hU13_11.but (by first | exact nmx_13_10 | exact ⟨mx.ne m13_10 rfl⟩ | exact ⟨mx.ne m13_10 (by assumption)⟩ | exact ⟨Ne.symm (m13_10.ne mx (by assumption))⟩)
                        have hX := hX.upd hU13_11.but gb13_10
                        have m13_10 := hU13_11.blk
                        refine ⟨okn, ?_⟩
                        refine xp_pure (i := 12) rfl (by kernel_rfl) (by kernel_rfl) rfl rfl rfl (pv_assign (v := .bool _) rfl rfl) ?_
                        refine xp_done (by kernel_rfl) ?_
                        refine xthen_normal ?_
                        refine xc_seq ?_
                        refine xc_region ?_
                        refine xl_light rfl rfl rfl (lv_load (v := .agg _) rfl rfl (ld_blk_a m13_10 rfl rfl)) ?_
                        refine xl_store rfl rfl (hv_storeA (vs := [.slice _ _ _, .slice _ _ _]) rfl rfl rfl (mx) rfl (by rfl) rfl) ?_
                        rintro v14_1 H14_1 ⟨hU14_1, hZ14_1⟩
                        have hb := hb.offT mx hU14_1.but (by first | rfl | assumption)
                        have hx := hx.offT mx hU14_1.but (by first | rfl | assumption)
                        have m13_10 := m13_10.off hU14_1.but (by first | exact nmx_13_10.symm | exact ⟨m13_10.ne mx rfl⟩ | exact ⟨m13_10.ne mx (by assumption)⟩ | exact ⟨Ne.symm (mx.ne m13_10 (by assumption))⟩)
                        have hX := hX.upd hU14_1.but gb4_6
                        have mx := hU14_1.blk
                        refine xl_nil ?_
                        refine xthen_normal ?_
                        refine xc_seq ?_
                        refine xp_start rfl (by repeat (first | with_reducible exact np_fin | with_reducible exact np_ret | with_reducible refine np_then ?_ | with_reducible refine np_block ?_)) (by kernel_rfl) ?_
                        refine xp_pure (i := 0) rfl (by kernel_rfl) (by kernel_rfl) rfl rfl rfl (pv_move (v := .bool _) rfl rfl) ?_
                        refine xp_pure (i := 1) rfl (by kernel_rfl) (by kernel_rfl) rfl rfl rfl (pv_not rfl rfl) ?_
                        refine xp_pure (i := 2) rfl (by kernel_rfl) (by kernel_rfl) rfl rfl rfl (pv_move (v := .bool _) rfl rfl) ?_
                        refine xp_pure (i := 3) rfl (by kernel_rfl) (by kernel_rfl) rfl rfl rfl (pv_move (v := .pointer _) rfl rfl) ?_
                        refine xp_pure (i := 5) rfl (by kernel_rfl) (by kernel_rfl) rfl rfl rfl (pv_fieldAddr rfl rfl) ?_
                        refine xp_light (i := 6) rfl (by kernel_rfl) (by kernel_rfl) rfl rfl rfl (lv_load (v := .slice _ _ _) rfl rfl (ld_blk mx rfl)) ?_
                        refine xp_heavy (i := 4) (by kernel_rfl) ?_
                        refine xph_val rfl rfl rfl rfl (hv_call (g := 11) rfl rfl (linesB (hb) hI2.gs) rfl) (pk (by kernel_rfl) pn) ?_
                        rintro v15_4 H15_4 ⟨a15_4, c15_4, rfl, hD15_4, hE15_4⟩
                        have hb := hb.ext hE15_4
                        have hx := hx.ext hE15_4
                        have mx := mx.ext hE15_4
                        have m13_10 := m13_10.ext hE15_4
                        have hX := hX.trans hE15_4
                        refine ⟨(okc (lv_load (v := .slice _ _ _) rfl rfl (ld_blk mx rfl)) okn), ?_⟩
                        refine xp_heavy (i := 7) (by kernel_rfl) ?_
                        refine xph_val rfl rfl rfl rfl (hv_call (g := 13) rfl rfl (sameL hD15_4 (hx.ld) (by simp) (by simp) (iv_len hI2) (iv_small hI2)) rfl) (pd (by kernel_rfl) pn) ?_
                        rintro v15_7 H15_7 ⟨r15_7, rfl, hb15_7, rfl⟩
                        obtain rfl : r15_7 = true := hb15_7.2 rfl
                        refine ⟨okn, ?_⟩
                        refine xp_pure (i := 8) rfl (by kernel_rfl) (by kernel_rfl) rfl rfl rfl (pv_not rfl rfl) ?_
                        refine xp_pure (i := 9) rfl (by kernel_rfl) (by kernel_rfl) rfl rfl rfl (pv_pick_f (v := .bool _) rfl rfl rfl) ?_
                        refine xp_done (by kernel_rfl) ?_
                        refine xthen_normal ?_
                        refine xc_cond_f rfl ?_
                        refine xc_skip ?_
                        refine xblock_normal ?_
                        refine xthen_normal ?_
                        refine xc_region ?_
                        refine xl_pure rfl rfl rfl (pv_move (v := .int _ _) rfl rfl) ?_
                        refine xl_pure rfl rfl rfl (pv_add rfl rfl rfl (fit_i64 (by omega))) ?_
                        refine xl_pure rfl rfl rfl (pv_assign (v := .int _ _) rfl rfl) ?_
                        refine xl_nil ?_
                        refine xthen_normal ?_
                        exact ⟨(i + 1, S2, f2, G2, _, _), ⟨rfl, rfl, rfl, rfl, rfl, trivial⟩, ⟨by (try simp only); omega, hI2, hsl2, fun i h => Nat.lt_of_lt_of_le (hg2 i h) (by first | (have := hU13_11.but.size; have := hU14_1.but.size; have := hN13_10.ext.size; have := hE15_4.size; omega) | (have := hU13_11.but.size; have := hU14_1.but.size; have := hE15_4.size; omega)), hge2, hnb2, mx, hb, hx, hX⟩, by (try simp only); omega⟩
                    · exact absurd (by decide) h11_6
                  · skip
                    refine xl_pure rfl rfl rfl (pv_move (v := .bool _) rfl rfl) ?_
                    refine xl_skip rfl rfl rfl ?_
                    refine xl_skip rfl rfl rfl ?_
                    refine xl_pure rfl rfl rfl (pv_pick_f (v := .bool _) rfl rfl rfl) ?_
                    refine xl_nil ?_
                    refine xthen_normal ?_
                    refine xc_cond_f rfl ?_
                    refine xc_exit ?_
                    refine xthen_exit ?_
                    refine xthen_exit ?_
                    refine xblock_same ?_
                    refine xthen_normal ?_
                    refine xc_seq ?_
                    refine xp_start rfl (by repeat (first | with_reducible exact np_fin | with_reducible exact np_ret | with_reducible refine np_then ?_ | with_reducible refine np_block ?_)) (by kernel_rfl) ?_
                    refine xp_pure (i := 0) rfl (by kernel_rfl) (by kernel_rfl) rfl rfl rfl (pv_move (v := .int _ _) rfl rfl) ?_
                    refine xp_ndec (i := 1) rfl (by kernel_rfl) (by kernel_rfl) rfl rfl rfl (pv_neq rfl rfl rfl) (fun h17_1 => ?_) (fun h17_1 => ?_)
                    · skip
                      refine xp_pure (i := 2) rfl (by kernel_rfl) (by kernel_rfl) rfl rfl rfl (pv_move (v := .bool _) rfl rfl) ?_
                      refine xp_pure (i := 3) rfl (by kernel_rfl) (by kernel_rfl) rfl rfl rfl (pv_move (v := .pointer _) rfl rfl) ?_
                      refine xp_pure (i := 5) rfl (by kernel_rfl) (by kernel_rfl) rfl rfl rfl (pv_fieldAddr rfl rfl) ?_
                      refine xp_light (i := 6) rfl (by kernel_rfl) (by kernel_rfl) rfl rfl rfl (lv_load (v := .slice _ _ _) rfl rfl (ld_blk mx rfl)) ?_
                      refine xp_heavy (i := 4) (by kernel_rfl) ?_
                      refine xph_val rfl rfl rfl rfl (hv_call (g := 11) rfl rfl (linesB (hb) hI.gs) rfl) (pk (by kernel_rfl) pn) ?_
                      rintro v17_4 H17_4 ⟨a17_4, c17_4, rfl, hD17_4, hE17_4⟩
                      have hb := hb.ext hE17_4
                      have hx := hx.ext hE17_4
                      have mx := mx.ext hE17_4
                      have hX := hX.trans hE17_4
                      refine ⟨(okc (lv_load (v := .slice _ _ _) rfl rfl (ld_blk mx rfl)) okn), ?_⟩
                      refine xp_heavy (i := 7) (by kernel_rfl) ?_
                      refine xph_val rfl rfl rfl rfl (hv_call (g := 13) rfl rfl (sameL hD17_4 (hx.ld) (by simp) (by simp) (iv_len hI) (iv_small hI)) rfl) (pd (by kernel_rfl) pn) ?_
                      rintro v17_7 H17_7 ⟨r17_7, rfl, hb17_7, rfl⟩
                      obtain rfl : r17_7 = true := hb17_7.2 rfl
                      refine ⟨okn, ?_⟩
                      refine xp_pure (i := 8) rfl (by kernel_rfl) (by kernel_rfl) rfl rfl rfl (pv_pick_f (v := .bool _) rfl rfl rfl) ?_
                      refine xp_pure (i := 9) rfl (by kernel_rfl) (by kernel_rfl) rfl rfl rfl (pv_move (v := .bool _) rfl rfl) ?_
                      refine xp_heavy (i := 10) (by kernel_rfl) ?_
                      refine xph_val rfl rfl rfl rfl (hv_call (g := 8) rfl rfl (awake) rfl) pn ?_
                      rintro v17_10 H17_10 ⟨rfl, hE17_10⟩
                      have hb := hb.ext hE17_10
                      have hx := hx.ext hE17_10
                      have mx := mx.ext hE17_10
                      have hX := hX.trans hE17_10
                      refine ⟨okn, ?_⟩
                      refine xp_pure (i := 11) rfl (by kernel_rfl) (by kernel_rfl) rfl rfl rfl (pv_pick_t (v := .bool _) rfl rfl rfl) ?_
                      refine xp_pure (i := 12) rfl (by kernel_rfl) (by kernel_rfl) rfl rfl rfl (pv_assign (v := .bool _) rfl rfl) ?_
                      refine xp_done (by kernel_rfl) ?_
                      refine xthen_normal ?_
                      refine xc_ret ?_
                      refine fin_ret (res1 (v := .bool _) rfl rfl) ?_
                      exact ⟨rfl, hX⟩
                    · exact absurd (by decide) h17_1
              · exact absurd (by decide) h8_7
            · exact absurd (by decide) h8_2
          · skip
            obtain ⟨G, hG, hge⟩ : ∃ G : Nat → Prop, (∀ i, G i → i < Array.size H6_1) ∧ ∀ i, G i → H.size ≤ i := ⟨fun _ => False, fun i h => h.elim, fun i h => h.elim⟩
            refine xl_pure rfl rfl rfl (pv_move (v := .tuple _) rfl rfl) ?_
            refine xl_pure rfl rfl rfl (pv_extract (v := .pointer _) rfl rfl rfl) ?_
            refine xl_pure rfl rfl rfl (pv_extract (v := .int _ _) rfl rfl rfl) ?_
            refine xl_pure rfl rfl rfl (pv_assign (v := .pointer _) rfl rfl) ?_
            refine xl_pure rfl rfl rfl (pv_assign (v := .int _ _) rfl rfl) ?_
            refine xl_nil ?_
            refine xthen_normal ?_
            refine xc_region ?_
            refine xl_pure rfl rfl rfl (pv_move (v := .slice _ _ _) rfl rfl) ?_
            refine xl_heavy rfl rfl rfl (hv_call (g := 12) rfl rfl (dnew (B := H.size) (G := G) (hs.ext hX) (by omega) hG hX.size) rfl) ?_
            rintro v7_1 H7_1 ⟨hv7_1, hE7_1⟩
            have m4_6 := m4_6.ext hE7_1
            have hX := hX.trans hE7_1
            replace hv7_1 := hv7_1.resolve_left (fun h => hno2 h.1)
            obtain ⟨-, rfl⟩ := hv7_1
            refine xl_pure rfl rfl rfl (pv_move (v := .tuple _) rfl rfl) ?_
            refine xl_pure rfl rfl rfl (pv_extract (v := .agg _) rfl rfl rfl) ?_
            refine xl_pure rfl rfl rfl (pv_extract (v := .int _ _) rfl rfl rfl) ?_
            refine xl_store rfl rfl (hv_storeA (vs := [.slice _ _ _, .slice _ _ _]) rfl rfl rfl (m4_6) rfl (by rfl) rfl) ?_
            rintro v7_5 H7_5 ⟨hU7_5, hZ7_5⟩
            have hX := hX.upd hU7_5.but gb4_6
            have m4_6 := hU7_5.blk
            try have hGf : ∀ y, G y → y < _ := fun y h => Nat.lt_of_lt_of_le (hG y h) (Nat.le_trans hE7_1.size hU7_5.but.size)
            refine xl_pure rfl rfl rfl (pv_assign (v := .int _ _) rfl rfl) ?_
            refine xl_nil ?_
            refine xthen_normal ?_
            refine xc_seq ?_
            refine xc_seq ?_
            refine xc_region ?_
            refine xl_pure rfl rfl rfl (pv_move (v := .int _ _) rfl rfl) ?_
            refine xl_pure rfl rfl rfl (pv_move (v := .int _ _) rfl rfl) ?_
            refine xl_ndec rfl rfl rfl (pv_neq rfl rfl rfl) (fun h8_2 => ?_) (fun h8_2 => ?_)
            · skip
              refine xl_pure rfl rfl rfl (pv_move (v := .bool _) rfl rfl) ?_
              refine xl_pure rfl rfl rfl (pv_move (v := .pointer _) rfl rfl) ?_
              refine xl_pure rfl rfl rfl (pv_neq_nn rfl rfl rfl) ?_
              refine xl_pure rfl rfl rfl (pv_move (v := .int _ _) rfl rfl) ?_
              refine xl_dec rfl rfl rfl (pv_eql rfl rfl rfl) (fun h8_7 => ?_) (fun h8_7 => ?_)
              · exact absurd h8_7 (by decide)
              · skip
                refine xl_pure rfl rfl rfl (pv_neq_b rfl rfl rfl) ?_
                refine xl_pure rfl rfl rfl (pv_pick_f (v := .bool _) rfl rfl rfl) ?_
                refine xl_nil ?_
                refine xthen_normal ?_
                refine xc_cond_f rfl ?_
                refine xc_skip ?_
                refine xthen_normal ?_
                refine xc_seq ?_
                refine xc_seq ?_
                refine xc_region ?_
                refine xl_pure rfl rfl rfl (pv_assign (v := .int _ _) rfl rfl) ?_
                refine xl_nil ?_
                refine xthen_normal ?_
                refine xc_block ?_
                refine xc_loop (τ := Nat) (fun t => [(2, .slice a3 A.length c3), (7, .pointer none), (8, .int .i64 1), (9, .pointer (some ⟨b4_6, 0, none⟩)), (11, .int .i64 (t : Nat))]) (fun t H' => (t ≤ A.length) ∧ (Ext H H')) (fun t H' => A.length - t) 0 ?_ ?_ ?_
                · exact ⟨rfl, rfl, rfl, rfl, rfl, trivial⟩
                · skip
                  exact ⟨Nat.zero_le _, hX⟩
                · intro σ
                  clear hX m4_6
                  rintro i Hl11 ⟨hi, hX⟩
                  replace hi : i ≤ A.length := hi
                  replace hX : Ext H Hl11 := hX
                  show XC _ _ _ (upds σ [(2, .slice a3 A.length c3), (7, .pointer none), (8, .int .i64 1), (9, .pointer (some ⟨b4_6, 0, none⟩)), (11, .int .i64 (i : Nat))]) _
                  refine xc_seq ?_
                  refine xc_seq ?_
                  refine xc_region ?_
                  refine xl_pure rfl rfl rfl (pv_move (v := .int _ _) rfl rfl) ?_
                  refine xl_pure rfl rfl rfl (pv_move (v := .slice _ _ _) rfl rfl) ?_
                  refine xl_pure rfl rfl rfl (pv_len_l rfl rfl) ?_
                  refine xl_dec rfl rfl rfl (pv_lss rfl rfl rfl) (fun h11_3 => ?_) (fun h11_3 => ?_)
                  · skip
                    refine xl_pure rfl rfl rfl (pv_move (v := .bool _) rfl rfl) ?_
                    refine xl_pure rfl rfl rfl (pv_move (v := .int _ _) rfl rfl) ?_
                    refine xl_dec rfl rfl rfl (pv_eql rfl rfl rfl) (fun h11_6 => ?_) (fun h11_6 => ?_)
                    · exact absurd h11_6 (by decide)
                    · skip
                      refine xl_pure rfl rfl rfl (pv_pick_t (v := .bool _) rfl rfl rfl) ?_
                      refine xl_nil ?_
                      refine xthen_normal ?_
                      refine xc_cond_f rfl ?_
                      refine xc_exit ?_
                      refine xthen_exit ?_
                      refine xthen_exit ?_
                      refine xblock_same ?_
                      refine xthen_normal ?_
                      refine xc_seq ?_
                      refine xp_start rfl (by repeat (first | with_reducible exact np_fin | with_reducible exact np_ret | with_reducible refine np_then ?_ | with_reducible refine np_block ?_)) (by kernel_rfl) ?_
                      refine xp_pure (i := 0) rfl (by kernel_rfl) (by kernel_rfl) rfl rfl rfl (pv_move (v := .int _ _) rfl rfl) ?_
                      refine xp_ndec (i := 1) rfl (by kernel_rfl) (by kernel_rfl) rfl rfl rfl (pv_neq rfl rfl rfl) (fun h17_1 => ?_) (fun h17_1 => ?_)
                      · exact absurd h17_1 (by decide)
                      · skip
                        refine xp_pure (i := 2) rfl (by kernel_rfl) (by kernel_rfl) rfl rfl rfl (pv_move (v := .bool _) rfl rfl) ?_
                        refine xp_skip (i := 3) rfl (by kernel_rfl) (by kernel_rfl) rfl rfl rfl ?_
                        refine xp_skip (i := 4) rfl (by kernel_rfl) (by kernel_rfl) rfl rfl rfl ?_
                        refine xp_skip (i := 5) rfl (by kernel_rfl) (by kernel_rfl) rfl rfl rfl ?_
                        refine xp_skip (i := 6) rfl (by kernel_rfl) (by kernel_rfl) rfl rfl rfl ?_
                        refine xp_skip (i := 7) rfl (by kernel_rfl) (by kernel_rfl) rfl rfl rfl ?_
                        refine xp_pure (i := 8) rfl (by kernel_rfl) (by kernel_rfl) rfl rfl rfl (pv_pick_t (v := .bool _) rfl rfl rfl) ?_
                        refine xp_pure (i := 9) rfl (by kernel_rfl) (by kernel_rfl) rfl rfl rfl (pv_move (v := .bool _) rfl rfl) ?_
                        refine xp_heavy (i := 10) (by kernel_rfl) ?_
                        refine xph_val rfl rfl rfl rfl (hv_call (g := 8) rfl rfl (awake) rfl) pn ?_
                        rintro v17_10 H17_10 ⟨rfl, hE17_10⟩
                        have hX := hX.trans hE17_10
                        refine ⟨okn, ?_⟩
                        refine xp_pure (i := 11) rfl (by kernel_rfl) (by kernel_rfl) rfl rfl rfl (pv_pick_t (v := .bool _) rfl rfl rfl) ?_
                        refine xp_pure (i := 12) rfl (by kernel_rfl) (by kernel_rfl) rfl rfl rfl (pv_assign (v := .bool _) rfl rfl) ?_
                        refine xp_done (by kernel_rfl) ?_
                        refine xthen_normal ?_
                        refine xc_ret ?_
                        refine fin_ret (res1 (v := .bool _) rfl rfl) ?_
                        exact ⟨rfl, hX⟩
                  · skip
                    refine xl_pure rfl rfl rfl (pv_move (v := .bool _) rfl rfl) ?_
                    refine xl_skip rfl rfl rfl ?_
                    refine xl_skip rfl rfl rfl ?_
                    refine xl_pure rfl rfl rfl (pv_pick_f (v := .bool _) rfl rfl rfl) ?_
                    refine xl_nil ?_
                    refine xthen_normal ?_
                    refine xc_cond_f rfl ?_
                    refine xc_exit ?_
                    refine xthen_exit ?_
                    refine xthen_exit ?_
                    refine xblock_same ?_
                    refine xthen_normal ?_
                    refine xc_seq ?_
                    refine xp_start rfl (by repeat (first | with_reducible exact np_fin | with_reducible exact np_ret | with_reducible refine np_then ?_ | with_reducible refine np_block ?_)) (by kernel_rfl) ?_
                    refine xp_pure (i := 0) rfl (by kernel_rfl) (by kernel_rfl) rfl rfl rfl (pv_move (v := .int _ _) rfl rfl) ?_
                    refine xp_ndec (i := 1) rfl (by kernel_rfl) (by kernel_rfl) rfl rfl rfl (pv_neq rfl rfl rfl) (fun h17_1 => ?_) (fun h17_1 => ?_)
                    · exact absurd h17_1 (by decide)
                    · skip
                      refine xp_pure (i := 2) rfl (by kernel_rfl) (by kernel_rfl) rfl rfl rfl (pv_move (v := .bool _) rfl rfl) ?_
                      refine xp_skip (i := 3) rfl (by kernel_rfl) (by kernel_rfl) rfl rfl rfl ?_
                      refine xp_skip (i := 4) rfl (by kernel_rfl) (by kernel_rfl) rfl rfl rfl ?_
                      refine xp_skip (i := 5) rfl (by kernel_rfl) (by kernel_rfl) rfl rfl rfl ?_
                      refine xp_skip (i := 6) rfl (by kernel_rfl) (by kernel_rfl) rfl rfl rfl ?_
                      refine xp_skip (i := 7) rfl (by kernel_rfl) (by kernel_rfl) rfl rfl rfl ?_
                      refine xp_pure (i := 8) rfl (by kernel_rfl) (by kernel_rfl) rfl rfl rfl (pv_pick_t (v := .bool _) rfl rfl rfl) ?_
                      refine xp_pure (i := 9) rfl (by kernel_rfl) (by kernel_rfl) rfl rfl rfl (pv_move (v := .bool _) rfl rfl) ?_
                      refine xp_heavy (i := 10) (by kernel_rfl) ?_
                      refine xph_val rfl rfl rfl rfl (hv_call (g := 8) rfl rfl (awake) rfl) pn ?_
                      rintro v17_10 H17_10 ⟨rfl, hE17_10⟩
                      have hX := hX.trans hE17_10
                      refine ⟨okn, ?_⟩
                      refine xp_pure (i := 11) rfl (by kernel_rfl) (by kernel_rfl) rfl rfl rfl (pv_pick_t (v := .bool _) rfl rfl rfl) ?_
                      refine xp_pure (i := 12) rfl (by kernel_rfl) (by kernel_rfl) rfl rfl rfl (pv_assign (v := .bool _) rfl rfl) ?_
                      refine xp_done (by kernel_rfl) ?_
                      refine xthen_normal ?_
                      refine xc_ret ?_
                      refine fin_ret (res1 (v := .bool _) rfl rfl) ?_
                      exact ⟨rfl, hX⟩
            · exact absurd (by decide) h8_2
        · skip
          refine xl_nil ?_
          refine xthen_normal ?_
          refine xc_cond_f rfl ?_
          refine xc_skip ?_
          refine xthen_normal ?_
          refine xc_seq ?_
          refine xc_seq ?_
          refine xc_region ?_
          refine xl_pure rfl rfl rfl (pv_move (v := .int _ _) rfl rfl) ?_
          refine xl_pure rfl rfl rfl (pv_move (v := .int _ _) rfl rfl) ?_
          refine xl_ndec rfl rfl rfl (pv_neq rfl rfl rfl) (fun h8_2 => ?_) (fun h8_2 => ?_)
          · skip
            refine xl_pure rfl rfl rfl (pv_move (v := .bool _) rfl rfl) ?_
            refine xl_pure rfl rfl rfl (pv_move (v := .pointer _) rfl rfl) ?_
            refine xl_pure rfl rfl rfl (pv_neq_nn rfl rfl rfl) ?_
            refine xl_pure rfl rfl rfl (pv_move (v := .int _ _) rfl rfl) ?_
            refine xl_dec rfl rfl rfl (pv_eql rfl rfl rfl) (fun h8_7 => ?_) (fun h8_7 => ?_)
            · exact absurd h8_7 (by decide)
            · skip
              refine xl_pure rfl rfl rfl (pv_neq_b rfl rfl rfl) ?_
              refine xl_pure rfl rfl rfl (pv_pick_f (v := .bool _) rfl rfl rfl) ?_
              refine xl_nil ?_
              refine xthen_normal ?_
              refine xc_cond_f rfl ?_
              refine xc_skip ?_
              refine xthen_normal ?_
              refine xc_seq ?_
              refine xc_seq ?_
              refine xc_region ?_
              refine xl_pure rfl rfl rfl (pv_assign (v := .int _ _) rfl rfl) ?_
              refine xl_nil ?_
              refine xthen_normal ?_
              refine xc_block ?_
              refine xc_loop (τ := Nat) (fun t => [(2, .slice a3 A.length c3), (7, .pointer none), (8, .int .i64 1), (9, .pointer (some ⟨b4_6, 0, none⟩)), (11, .int .i64 (t : Nat))]) (fun t H' => (t ≤ A.length) ∧ (Ext H H')) (fun t H' => A.length - t) 0 ?_ ?_ ?_
              · exact ⟨rfl, rfl, rfl, rfl, rfl, trivial⟩
              · skip
                exact ⟨Nat.zero_le _, hX⟩
              · intro σ
                clear hX m4_6
                rintro i Hl11 ⟨hi, hX⟩
                replace hi : i ≤ A.length := hi
                replace hX : Ext H Hl11 := hX
                show XC _ _ _ (upds σ [(2, .slice a3 A.length c3), (7, .pointer none), (8, .int .i64 1), (9, .pointer (some ⟨b4_6, 0, none⟩)), (11, .int .i64 (i : Nat))]) _
                refine xc_seq ?_
                refine xc_seq ?_
                refine xc_region ?_
                refine xl_pure rfl rfl rfl (pv_move (v := .int _ _) rfl rfl) ?_
                refine xl_pure rfl rfl rfl (pv_move (v := .slice _ _ _) rfl rfl) ?_
                refine xl_pure rfl rfl rfl (pv_len_l rfl rfl) ?_
                refine xl_dec rfl rfl rfl (pv_lss rfl rfl rfl) (fun h11_3 => ?_) (fun h11_3 => ?_)
                · skip
                  refine xl_pure rfl rfl rfl (pv_move (v := .bool _) rfl rfl) ?_
                  refine xl_pure rfl rfl rfl (pv_move (v := .int _ _) rfl rfl) ?_
                  refine xl_dec rfl rfl rfl (pv_eql rfl rfl rfl) (fun h11_6 => ?_) (fun h11_6 => ?_)
                  · exact absurd h11_6 (by decide)
                  · skip
                    refine xl_pure rfl rfl rfl (pv_pick_t (v := .bool _) rfl rfl rfl) ?_
                    refine xl_nil ?_
                    refine xthen_normal ?_
                    refine xc_cond_f rfl ?_
                    refine xc_exit ?_
                    refine xthen_exit ?_
                    refine xthen_exit ?_
                    refine xblock_same ?_
                    refine xthen_normal ?_
                    refine xc_seq ?_
                    refine xp_start rfl (by repeat (first | with_reducible exact np_fin | with_reducible exact np_ret | with_reducible refine np_then ?_ | with_reducible refine np_block ?_)) (by kernel_rfl) ?_
                    refine xp_pure (i := 0) rfl (by kernel_rfl) (by kernel_rfl) rfl rfl rfl (pv_move (v := .int _ _) rfl rfl) ?_
                    refine xp_ndec (i := 1) rfl (by kernel_rfl) (by kernel_rfl) rfl rfl rfl (pv_neq rfl rfl rfl) (fun h17_1 => ?_) (fun h17_1 => ?_)
                    · exact absurd h17_1 (by decide)
                    · skip
                      refine xp_pure (i := 2) rfl (by kernel_rfl) (by kernel_rfl) rfl rfl rfl (pv_move (v := .bool _) rfl rfl) ?_
                      refine xp_skip (i := 3) rfl (by kernel_rfl) (by kernel_rfl) rfl rfl rfl ?_
                      refine xp_skip (i := 4) rfl (by kernel_rfl) (by kernel_rfl) rfl rfl rfl ?_
                      refine xp_skip (i := 5) rfl (by kernel_rfl) (by kernel_rfl) rfl rfl rfl ?_
                      refine xp_skip (i := 6) rfl (by kernel_rfl) (by kernel_rfl) rfl rfl rfl ?_
                      refine xp_skip (i := 7) rfl (by kernel_rfl) (by kernel_rfl) rfl rfl rfl ?_
                      refine xp_pure (i := 8) rfl (by kernel_rfl) (by kernel_rfl) rfl rfl rfl (pv_pick_t (v := .bool _) rfl rfl rfl) ?_
                      refine xp_pure (i := 9) rfl (by kernel_rfl) (by kernel_rfl) rfl rfl rfl (pv_move (v := .bool _) rfl rfl) ?_
                      refine xp_heavy (i := 10) (by kernel_rfl) ?_
                      refine xph_val rfl rfl rfl rfl (hv_call (g := 8) rfl rfl (awake) rfl) pn ?_
                      rintro v17_10 H17_10 ⟨rfl, hE17_10⟩
                      have hX := hX.trans hE17_10
                      refine ⟨okn, ?_⟩
                      refine xp_pure (i := 11) rfl (by kernel_rfl) (by kernel_rfl) rfl rfl rfl (pv_pick_t (v := .bool _) rfl rfl rfl) ?_
                      refine xp_pure (i := 12) rfl (by kernel_rfl) (by kernel_rfl) rfl rfl rfl (pv_assign (v := .bool _) rfl rfl) ?_
                      refine xp_done (by kernel_rfl) ?_
                      refine xthen_normal ?_
                      refine xc_ret ?_
                      refine fin_ret (res1 (v := .bool _) rfl rfl) ?_
                      exact ⟨rfl, hX⟩
                · skip
                  refine xl_pure rfl rfl rfl (pv_move (v := .bool _) rfl rfl) ?_
                  refine xl_skip rfl rfl rfl ?_
                  refine xl_skip rfl rfl rfl ?_
                  refine xl_pure rfl rfl rfl (pv_pick_f (v := .bool _) rfl rfl rfl) ?_
                  refine xl_nil ?_
                  refine xthen_normal ?_
                  refine xc_cond_f rfl ?_
                  refine xc_exit ?_
                  refine xthen_exit ?_
                  refine xthen_exit ?_
                  refine xblock_same ?_
                  refine xthen_normal ?_
                  refine xc_seq ?_
                  refine xp_start rfl (by repeat (first | with_reducible exact np_fin | with_reducible exact np_ret | with_reducible refine np_then ?_ | with_reducible refine np_block ?_)) (by kernel_rfl) ?_
                  refine xp_pure (i := 0) rfl (by kernel_rfl) (by kernel_rfl) rfl rfl rfl (pv_move (v := .int _ _) rfl rfl) ?_
                  refine xp_ndec (i := 1) rfl (by kernel_rfl) (by kernel_rfl) rfl rfl rfl (pv_neq rfl rfl rfl) (fun h17_1 => ?_) (fun h17_1 => ?_)
                  · exact absurd h17_1 (by decide)
                  · skip
                    refine xp_pure (i := 2) rfl (by kernel_rfl) (by kernel_rfl) rfl rfl rfl (pv_move (v := .bool _) rfl rfl) ?_
                    refine xp_skip (i := 3) rfl (by kernel_rfl) (by kernel_rfl) rfl rfl rfl ?_
                    refine xp_skip (i := 4) rfl (by kernel_rfl) (by kernel_rfl) rfl rfl rfl ?_
                    refine xp_skip (i := 5) rfl (by kernel_rfl) (by kernel_rfl) rfl rfl rfl ?_
                    refine xp_skip (i := 6) rfl (by kernel_rfl) (by kernel_rfl) rfl rfl rfl ?_
                    refine xp_skip (i := 7) rfl (by kernel_rfl) (by kernel_rfl) rfl rfl rfl ?_
                    refine xp_pure (i := 8) rfl (by kernel_rfl) (by kernel_rfl) rfl rfl rfl (pv_pick_t (v := .bool _) rfl rfl rfl) ?_
                    refine xp_pure (i := 9) rfl (by kernel_rfl) (by kernel_rfl) rfl rfl rfl (pv_move (v := .bool _) rfl rfl) ?_
                    refine xp_heavy (i := 10) (by kernel_rfl) ?_
                    refine xph_val rfl rfl rfl rfl (hv_call (g := 8) rfl rfl (awake) rfl) pn ?_
                    rintro v17_10 H17_10 ⟨rfl, hE17_10⟩
                    have hX := hX.trans hE17_10
                    refine ⟨okn, ?_⟩
                    refine xp_pure (i := 11) rfl (by kernel_rfl) (by kernel_rfl) rfl rfl rfl (pv_pick_t (v := .bool _) rfl rfl rfl) ?_
                    refine xp_pure (i := 12) rfl (by kernel_rfl) (by kernel_rfl) rfl rfl rfl (pv_assign (v := .bool _) rfl rfl) ?_
                    refine xp_done (by kernel_rfl) ?_
                    refine xthen_normal ?_
                    refine xc_ret ?_
                    refine fin_ret (res1 (v := .bool _) rfl rfl) ?_
                    exact ⟨rfl, hX⟩
          · exact absurd (by decide) h8_2
  · skip
    refine xl_pure rfl rfl rfl (pv_not rfl rfl) ?_
    refine xl_pure rfl rfl rfl (pv_move (v := .bool _) rfl rfl) ?_
    refine xl_skip rfl rfl rfl ?_
    refine xl_skip rfl rfl rfl ?_
    refine xl_skip rfl rfl rfl ?_
    refine xl_pure rfl rfl rfl (pv_pick_t (v := .bool _) rfl rfl rfl) ?_
    refine xl_nil ?_
    refine xthen_normal ?_
    refine xc_cond_t rfl ?_
    refine xc_seq ?_
    refine xc_region ?_
    refine xl_heavy rfl rfl rfl (hv_call (g := 8) rfl rfl (awake) rfl) ?_
    rintro v2_0 H2_0 ⟨rfl, hE2_0⟩
    have hX := hX.trans hE2_0
    refine xl_pure rfl rfl rfl (pv_assign (v := .bool _) rfl rfl) ?_
    refine xl_nil ?_
    refine xthen_normal ?_
    refine xc_ret ?_
    refine xthen_ret ?_
    refine fin_ret (res1 (v := .bool _) rfl rfl) ?_
    exact ⟨rfl, hX⟩
end Go.XG
