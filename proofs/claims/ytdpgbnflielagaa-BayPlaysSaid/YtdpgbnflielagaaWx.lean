/-
  Walks of the seat's functions over the logic XG: each function, what it computes. Printed by a program out of wip/walks.py.
-/
import Derived.Test.YtdpgbnflielagaaI
import Derived.Test.YtdpgbnflielagaaN
import Derived.Test.YtdpgbnflielagaaDl
import Derived.Test.YtdpgbnflielagaaWa
import Derived.Test.YtdpgbnflielagaaWb
import Derived.Test.YtdpgbnflielagaaWc
import Derived.Test.YtdpgbnflielagaaWd
import Derived.Test.YtdpgbnflielagaaWe
import Derived.Test.YtdpgbnflielagaaWf
import Derived.Test.YtdpgbnflielagaaWg
import Derived.Test.YtdpgbnflielagaaWh
import Derived.Test.YtdpgbnflielagaaWi
import Derived.Test.YtdpgbnflielagaaWj
import Derived.Test.YtdpgbnflielagaaWk
import Derived.Test.YtdpgbnflielagaaWl
import Derived.Test.YtdpgbnflielagaaWm
import Derived.Test.YtdpgbnflielagaaWo
import Derived.Test.YtdpgbnflielagaaWp
import Derived.Test.YtdpgbnflielagaaWq
import Derived.Test.YtdpgbnflielagaaWr
import Derived.Test.YtdpgbnflielagaaWs
import Derived.Test.YtdpgbnflielagaaWt
import Derived.Test.YtdpgbnflielagaaWu
namespace Go.XG
open Go.Proofs
set_option maxRecDepth 4000
set_option maxHeartbeats 4000000
theorem doB {O : Outer} {H : Heap} {bp : Nat} {G : Nat → Prop} {S : List Sd} {f : Fn} {B : Nat} {la xa : Option Addr} {lc xc : Nat} {l : List (List Int)} (hb : BB H bp G S f) (hI : IV S f) (hs : Rows H la 4 l) (hN : sls l = S.map Sd.sl) (hx : LX B H G xa xc (S.map lnS)) (hG : ∀ i, G i → i < H.size) (hB : B ≤ H.size) (hsG : ∀ {H1 : Heap}, KeepF G H H1 → Rows H1 la 4 l) (q b o j : Int) :
    FnC Try.prog 17 #[.pointer (some ⟨bp, 0, none⟩), .agg #[.slice la l.length lc, .slice xa S.length xc], .agg #[.int .i64 q, .int .i64 b, .int .i64 o, .int .i64 j]] O H (fun v H' => ∃ (S' : List Sd) (f' : Fn) (G' : Nat → Prop) (a' : Option Addr) (c' : Nat), v = .tuple #[.agg #[.slice la l.length lc, .slice a' S'.length c'], .bool true] ∧ BB H' bp G' S' f' ∧ LX B H' G' a' c' (S'.map lnS) ∧ IV S' f' ∧ S'.map Sd.sl = S.map Sd.sl ∧ (∀ i, G' i → G i ∨ H.size ≤ i) ∧ (∀ i, G' i → i < H'.size) ∧ KeepF G H H') := by
  refine fn_enter (A := [.pointer (some ⟨bp, 0, none⟩), .agg #[.slice la l.length lc, .slice xa S.length xc], .agg #[.int .i64 q, .int .i64 b, .int .i64 o, .int .i64 j]]) Try.func17 rfl rfl ?_
  have hX := KeepF.refl (G) H
  refine xc_seq ?_
  refine xc_region ?_
  refine xl_heavy rfl rfl rfl (hv_box rfl rfl) ?_
  rintro v0_0 H0_0 ⟨b0_0, rfl, hN0_0⟩
  have gb0_0 := hX.fresh hN0_0
  have hb := hb.ext hN0_0.ext
  have hx := hx.ext hN0_0.ext
  have hX := hX.transE hN0_0.ext
  have m0_0 := hN0_0.blk
  refine xl_heavy rfl rfl rfl (hv_box rfl rfl) ?_
  rintro v0_1 H0_1 ⟨b0_1, rfl, hN0_1⟩
  have gb0_1 := hX.fresh hN0_1
  have nm0_0_0_1 := m0_0.apart hN0_1
  have hb := hb.ext hN0_1.ext
  have hx := hx.ext hN0_1.ext
  have m0_0 := m0_0.ext hN0_1.ext
  have hX := hX.transE hN0_1.ext
  have m0_1 := hN0_1.blk
  refine xl_heavy rfl rfl rfl (hv_alloc rfl rfl) ?_
  rintro v0_2 H0_2 ⟨b0_2, rfl, hN0_2⟩
  have gb0_2 := hX.fresh hN0_2
  have nm0_0_0_2 := m0_0.apart hN0_2
  have nm0_1_0_2 := m0_1.apart hN0_2
  have hb := hb.ext hN0_2.ext
  have hx := hx.ext hN0_2.ext
  have m0_0 := m0_0.ext hN0_2.ext
  have m0_1 := m0_1.ext hN0_2.ext
  have hX := hX.transE hN0_2.ext
  have m0_2 := hN0_2.blk
  refine xl_pure rfl rfl rfl (pv_assign (v := .bool _) rfl rfl) ?_
  refine xl_nil ?_
  refine xthen_normal ?_
  refine xc_seq ?_
  refine xc_seq ?_
  have hbB := Nat.le_trans hB gb0_2.le
  refine xc_region ?_
  refine xl_pure rfl rfl rfl (pv_fieldAddr rfl rfl) ?_
  refine xl_light rfl rfl rfl (lv_load (v := .int _ _) rfl rfl (ld_blk m0_1 rfl)) ?_
  refine xl_nil ?_
  refine xthen_normal ?_
  refine xc_block ?_
  refine xc_seq ?_
  refine xc_region ?_
  refine xl_dec rfl rfl rfl (pv_eql rfl rfl rfl) (fun h2_0 => ?_) (fun h2_0 => ?_)
  · skip
    refine xl_pure rfl rfl rfl (pv_assign (v := .bool _) rfl rfl) ?_
    refine xl_nil ?_
    refine xthen_normal ?_
    refine xc_cond_t rfl ?_
    refine xc_seq ?_
    have hnb2 : ¬ G b0_2 := fun h => by have := hG _ h; have := gb0_2.le; omega
    refine xc_region ?_
    refine xl_light rfl rfl rfl (lv_load (v := .agg _) rfl rfl (ld_blk_a m0_0 rfl rfl)) ?_
    refine xl_pure rfl rfl rfl (pv_fieldAddr rfl rfl) ?_
    refine xl_light rfl rfl rfl (lv_load (v := .int _ _) rfl rfl (ld_blk m0_1 rfl)) ?_
    refine xl_pure rfl rfl rfl (pv_fieldAddr rfl rfl) ?_
    refine xl_light rfl rfl rfl (lv_load (v := .int _ _) rfl rfl (ld_blk m0_1 rfl)) ?_
    refine xl_pure rfl rfl rfl (pv_fieldAddr rfl rfl) ?_
    refine xl_light rfl rfl rfl (lv_load (v := .int _ _) rfl rfl (ld_blk m0_1 rfl)) ?_
    refine xl_heavy rfl rfl rfl (hv_call (g := 33) rfl rfl (dask (hsG hX) hN hx hI (fun i h => Nat.lt_of_lt_of_le (hG i h) hX.size) (Nat.le_trans hB hX.size) b o j) rfl) ?_
    rintro v3_7 H3_7 ⟨a3_7, c3_7, hv3_7, hL3_7, hE3_7⟩
    have hb := hb.ext hE3_7
    have hx := hx.ext hE3_7
    have m0_0 := m0_0.ext hE3_7
    have m0_1 := m0_1.ext hE3_7
    have m0_2 := m0_2.ext hE3_7
    have hX := hX.transE hE3_7
    obtain ⟨rr, hrr⟩ : ∃ r, askR S f b o j = r := ⟨_, rfl⟩
    rw [hrr] at hv3_7
    subst hv3_7
    cases rr
    · skip
      refine xl_pure rfl rfl rfl (pv_move (v := .tuple _) rfl rfl) ?_
      refine xl_pure rfl rfl rfl (pv_extract (v := .agg _) rfl rfl rfl) ?_
      refine xl_pure rfl rfl rfl (pv_extract (v := .bool _) rfl rfl rfl) ?_
      refine xl_pure rfl rfl rfl (pv_extract (v := .int _ _) rfl rfl rfl) ?_
      refine xl_heavy rfl rfl rfl (hv_alloc rfl rfl) ?_
      rintro v3_12 H3_12 ⟨b3_12, rfl, hN3_12⟩
      have gb3_12 := hX.fresh hN3_12
      have nm0_0_3_12 := m0_0.apart hN3_12
      have nm0_1_3_12 := m0_1.apart hN3_12
      have nm0_2_3_12 := m0_2.apart hN3_12
      have hb := hb.ext hN3_12.ext
      have hx := hx.ext hN3_12.ext
      have m0_0 := m0_0.ext hN3_12.ext
      have m0_1 := m0_1.ext hN3_12.ext
      have m0_2 := m0_2.ext hN3_12.ext
      have hL3_7 := hL3_7.ext hN3_12.ext
      have hX := hX.transE hN3_12.ext
      have m3_12 := hN3_12.blk
      have hbB3 := Nat.le_trans hB gb3_12.le
      have hnb3 : ¬ G b3_12 := fun h => by have := hG _ h; have := gb3_12.le; omega
      refine xl_store rfl rfl (hv_storeA (vs := [.slice _ _ _, .slice _ _ _]) rfl rfl rfl (m3_12) rfl (by rfl) rfl) ?_
      rintro v3_13 H3_13 ⟨hU3_13, hZ3_13⟩
      have hb := hb.offT m3_12 hU3_13.but (by first | rfl | assumption)
      have hx := hx.offT m3_12 hU3_13.but (by first | rfl | assumption)
      have m0_0 := m0_0.off hU3_13.but (by first | exact nm0_0_3_12 | exact ⟨m0_0.ne m3_12 rfl⟩ | exact ⟨m0_0.ne m3_12 (by assumption)⟩ | exact ⟨Ne.symm (m3_12.ne m0_0 (by assumption))⟩)
      have m0_1 := m0_1.off hU3_13.but (by first | exact nm0_1_3_12 | exact ⟨m0_1.ne m3_12 rfl⟩ | exact ⟨m0_1.ne m3_12 (by assumption)⟩ | exact ⟨Ne.symm (m3_12.ne m0_1 (by assumption))⟩)
      have m0_2 := m0_2.off hU3_13.but (by first | exact nm0_2_3_12 | exact ⟨m0_2.ne m3_12 rfl⟩ | exact ⟨m0_2.ne m3_12 (by assumption)⟩ | exact ⟨Ne.symm (m3_12.ne m0_2 (by assumption))⟩)
      have hL3_7 := hL3_7.offT m3_12 hU3_13.but (by first | rfl | assumption)
      have hX := hX.upd hU3_13.but gb3_12
      have m3_12 := hU3_13.blk
      refine xl_pure rfl rfl rfl (pv_assign (v := .bool _) rfl rfl) ?_
      refine xl_pure rfl rfl rfl (pv_assign (v := .int _ _) rfl rfl) ?_
      refine xl_nil ?_
      refine xthen_normal ?_
      refine xc_seq ?_
      refine xc_region ?_
      refine xl_pure rfl rfl rfl (pv_move (v := .pointer _) rfl rfl) ?_
      refine xl_pure rfl rfl rfl (pv_fieldAddr rfl rfl) ?_
      refine xl_light rfl rfl rfl (lv_load (v := .int _ _) rfl rfl (ld_blk m0_1 rfl)) ?_
      refine xl_pure rfl rfl rfl (pv_fieldAddr rfl rfl) ?_
      refine xl_light rfl rfl rfl (lv_load (v := .int _ _) rfl rfl (ld_blk m0_1 rfl)) ?_
      refine xl_pure rfl rfl rfl (pv_fieldAddr rfl rfl) ?_
      refine xl_light rfl rfl rfl (lv_load (v := .int _ _) rfl rfl (ld_blk m0_1 rfl)) ?_
      refine xl_heavy rfl rfl rfl (hv_call (g := 9) rfl rfl (askB hb hI.gs b o j) rfl) ?_
      rintro v4_7 H4_7 ⟨hv4_7, hb4_7, hK4_7⟩
      rw [hrr] at hv4_7
      subst hv4_7
      have hn_0 : ¬ G b0_0 := fun h => by have := hG _ h; have := gb0_0.le; omega
      have hn_1 : ¬ G b0_1 := fun h => by have := hG _ h; have := gb0_1.le; omega
      have hn_2 : ¬ G b0_2 := fun h => by have := hG _ h; have := gb0_2.le; omega
      have hn_3 : ¬ G b3_12 := fun h => by have := hG _ h; have := gb3_12.le; omega
      have hn2 : ¬ Gn G H3_13 H4_7 b0_2 := fun h => h.elim hn_2 (fun h => by have := m0_2.lt; omega)
      have hg1 : ∀ i, Gn G H3_13 H4_7 i → G i ∨ H.size ≤ i := fun i h => h.imp id (fun h => Nat.le_trans hX.size h.1)
      have hg2 : ∀ i, Gn G H3_13 H4_7 i → i < Array.size H4_7 := fun i h => h.elim (fun h => Nat.lt_of_lt_of_le (hG i h) (Nat.le_trans hX.size hK4_7.size)) (fun h => h.2)
      have m0_0 := m0_0.keep hK4_7 hn_0
      have m0_1 := m0_1.keep hK4_7 hn_1
      have m0_2 := m0_2.keep hK4_7 hn_2
      have m3_12 := m3_12.keep hK4_7 hn_3
      have hL := hL3_7.keep hK4_7
      have hb := hb4_7
      have hX := hX.trans hK4_7
      refine xl_pure rfl rfl rfl (pv_move (v := .tuple _) rfl rfl) ?_
      refine xl_pure rfl rfl rfl (pv_extract (v := .bool _) rfl rfl rfl) ?_
      refine xl_pure rfl rfl rfl (pv_extract (v := .int _ _) rfl rfl rfl) ?_
      refine xl_pure rfl rfl rfl (pv_assign (v := .bool _) rfl rfl) ?_
      refine xl_pure rfl rfl rfl (pv_assign (v := .int _ _) rfl rfl) ?_
      refine xl_nil ?_
      refine xthen_normal ?_
      refine xc_seq ?_
      refine xc_region ?_
      refine xl_light rfl rfl rfl (lv_load (v := .agg _) rfl rfl (ld_blk_a m3_12 rfl rfl)) ?_
      refine xl_pure rfl rfl rfl (pv_move (v := .bool _) rfl rfl) ?_
      refine xl_pure rfl rfl rfl (pv_move (v := .bool _) rfl rfl) ?_
      refine xl_pure rfl rfl rfl (pv_eql_b rfl rfl rfl) ?_
      refine xl_pure rfl rfl rfl (pv_move (v := .bool _) rfl rfl) ?_
      refine xl_pure rfl rfl rfl (pv_move (v := .int _ _) rfl rfl) ?_
      refine xl_pure rfl rfl rfl (pv_move (v := .int _ _) rfl rfl) ?_
      refine xl_dec rfl rfl rfl (pv_eql rfl rfl rfl) (fun h5_7 => ?_) (fun h5_7 => ?_)
      · skip
        refine xl_pure rfl rfl rfl (pv_pick_t (v := .bool _) rfl rfl rfl) ?_
        refine xl_store rfl rfl (hv_storeA (vs := [.slice _ _ _, .slice _ _ _]) rfl rfl rfl (m0_2) rfl (by rfl) rfl) ?_
        rintro v5_9 H5_9 ⟨hU5_9, hZ5_9⟩
        have m0_0 := m0_0.off hU5_9.but (by first | exact nm0_0_0_2 | exact ⟨m0_0.ne m0_2 rfl⟩ | exact ⟨m0_0.ne m0_2 (by assumption)⟩ | exact ⟨Ne.symm (m0_2.ne m0_0 (by assumption))⟩)
        have m0_1 := m0_1.off hU5_9.but (by first | exact nm0_1_0_2 | exact ⟨m0_1.ne m0_2 rfl⟩ | exact ⟨m0_1.ne m0_2 (by assumption)⟩ | exact ⟨Ne.symm (m0_2.ne m0_1 (by assumption))⟩)
        have m3_12 := m3_12.off hU5_9.but (by first | exact nm0_2_3_12.symm | exact ⟨m3_12.ne m0_2 rfl⟩ | exact ⟨m3_12.ne m0_2 (by assumption)⟩ | exact ⟨Ne.symm (m0_2.ne m3_12 (by assumption))⟩)
        have hL := hL.offT m0_2 hU5_9.but (by first | rfl | assumption)
        have hb := hb.offT m0_2 hU5_9.but (by first | rfl | assumption)
        have hX := hX.upd hU5_9.but gb0_2
        have m0_2 := hU5_9.blk
        refine xl_pure rfl rfl rfl (pv_assign (v := .bool _) rfl rfl) ?_
        refine xl_nil ?_
        refine xthen_normal ?_
        refine xc_ret ?_
        refine xblock_ret ?_
        refine xthen_ret ?_
        refine fin_ret (resv2 rfl (rv_c (ty := 45) rfl (ld_blk_a m0_2 rfl rfl)) (rv_t (v := .bool _) rfl)) ?_
        have hlen := congrArg List.length (sl_ask : (askS S f b o j).map Sd.sl = S.map Sd.sl); rw [List.length_map, List.length_map] at hlen
        refine ⟨_, _, _, a3_7, c3_7, ?_, hb, hL, iv_ask hI, sl_ask, hg1, fun i h => Nat.lt_of_lt_of_le (hg2 i h) (by have := hU5_9.but.size; exact this), hX⟩
        rw [hlen]
      · exact absurd rfl h5_7
    · skip
      refine xl_pure rfl rfl rfl (pv_move (v := .tuple _) rfl rfl) ?_
      refine xl_pure rfl rfl rfl (pv_extract (v := .agg _) rfl rfl rfl) ?_
      refine xl_pure rfl rfl rfl (pv_extract (v := .bool _) rfl rfl rfl) ?_
      refine xl_pure rfl rfl rfl (pv_extract (v := .int _ _) rfl rfl rfl) ?_
      refine xl_heavy rfl rfl rfl (hv_alloc rfl rfl) ?_
      rintro v3_12 H3_12 ⟨b3_12, rfl, hN3_12⟩
      have gb3_12 := hX.fresh hN3_12
      have nm0_0_3_12 := m0_0.apart hN3_12
      have nm0_1_3_12 := m0_1.apart hN3_12
      have nm0_2_3_12 := m0_2.apart hN3_12
      have hb := hb.ext hN3_12.ext
      have hx := hx.ext hN3_12.ext
      have m0_0 := m0_0.ext hN3_12.ext
      have m0_1 := m0_1.ext hN3_12.ext
      have m0_2 := m0_2.ext hN3_12.ext
      have hL3_7 := hL3_7.ext hN3_12.ext
      have hX := hX.transE hN3_12.ext
      have m3_12 := hN3_12.blk
      have hbB3 := Nat.le_trans hB gb3_12.le
      have hnb3 : ¬ G b3_12 := fun h => by have := hG _ h; have := gb3_12.le; omega
      refine xl_store rfl rfl (hv_storeA (vs := [.slice _ _ _, .slice _ _ _]) rfl rfl rfl (m3_12) rfl (by rfl) rfl) ?_
      rintro v3_13 H3_13 ⟨hU3_13, hZ3_13⟩
      have hb := hb.offT m3_12 hU3_13.but (by first | rfl | assumption)
      have hx := hx.offT m3_12 hU3_13.but (by first | rfl | assumption)
      have m0_0 := m0_0.off hU3_13.but (by first | exact nm0_0_3_12 | exact ⟨m0_0.ne m3_12 rfl⟩ | exact ⟨m0_0.ne m3_12 (by assumption)⟩ | exact ⟨Ne.symm (m3_12.ne m0_0 (by assumption))⟩)
      have m0_1 := m0_1.off hU3_13.but (by first | exact nm0_1_3_12 | exact ⟨m0_1.ne m3_12 rfl⟩ | exact ⟨m0_1.ne m3_12 (by assumption)⟩ | exact ⟨Ne.symm (m3_12.ne m0_1 (by assumption))⟩)
      have m0_2 := m0_2.off hU3_13.but (by first | exact nm0_2_3_12 | exact ⟨m0_2.ne m3_12 rfl⟩ | exact ⟨m0_2.ne m3_12 (by assumption)⟩ | exact ⟨Ne.symm (m3_12.ne m0_2 (by assumption))⟩)
      have hL3_7 := hL3_7.offT m3_12 hU3_13.but (by first | rfl | assumption)
      have hX := hX.upd hU3_13.but gb3_12
      have m3_12 := hU3_13.blk
      refine xl_pure rfl rfl rfl (pv_assign (v := .bool _) rfl rfl) ?_
      refine xl_pure rfl rfl rfl (pv_assign (v := .int _ _) rfl rfl) ?_
      refine xl_nil ?_
      refine xthen_normal ?_
      refine xc_seq ?_
      refine xc_region ?_
      refine xl_pure rfl rfl rfl (pv_move (v := .pointer _) rfl rfl) ?_
      refine xl_pure rfl rfl rfl (pv_fieldAddr rfl rfl) ?_
      refine xl_light rfl rfl rfl (lv_load (v := .int _ _) rfl rfl (ld_blk m0_1 rfl)) ?_
      refine xl_pure rfl rfl rfl (pv_fieldAddr rfl rfl) ?_
      refine xl_light rfl rfl rfl (lv_load (v := .int _ _) rfl rfl (ld_blk m0_1 rfl)) ?_
      refine xl_pure rfl rfl rfl (pv_fieldAddr rfl rfl) ?_
      refine xl_light rfl rfl rfl (lv_load (v := .int _ _) rfl rfl (ld_blk m0_1 rfl)) ?_
      refine xl_heavy rfl rfl rfl (hv_call (g := 9) rfl rfl (askB hb hI.gs b o j) rfl) ?_
      rintro v4_7 H4_7 ⟨hv4_7, hb4_7, hK4_7⟩
      rw [hrr] at hv4_7
      subst hv4_7
      have hn_0 : ¬ G b0_0 := fun h => by have := hG _ h; have := gb0_0.le; omega
      have hn_1 : ¬ G b0_1 := fun h => by have := hG _ h; have := gb0_1.le; omega
      have hn_2 : ¬ G b0_2 := fun h => by have := hG _ h; have := gb0_2.le; omega
      have hn_3 : ¬ G b3_12 := fun h => by have := hG _ h; have := gb3_12.le; omega
      have hn2 : ¬ Gn G H3_13 H4_7 b0_2 := fun h => h.elim hn_2 (fun h => by have := m0_2.lt; omega)
      have hg1 : ∀ i, Gn G H3_13 H4_7 i → G i ∨ H.size ≤ i := fun i h => h.imp id (fun h => Nat.le_trans hX.size h.1)
      have hg2 : ∀ i, Gn G H3_13 H4_7 i → i < Array.size H4_7 := fun i h => h.elim (fun h => Nat.lt_of_lt_of_le (hG i h) (Nat.le_trans hX.size hK4_7.size)) (fun h => h.2)
      have m0_0 := m0_0.keep hK4_7 hn_0
      have m0_1 := m0_1.keep hK4_7 hn_1
      have m0_2 := m0_2.keep hK4_7 hn_2
      have m3_12 := m3_12.keep hK4_7 hn_3
      have hL := hL3_7.keep hK4_7
      have hb := hb4_7
      have hX := hX.trans hK4_7
      refine xl_pure rfl rfl rfl (pv_move (v := .tuple _) rfl rfl) ?_
      refine xl_pure rfl rfl rfl (pv_extract (v := .bool _) rfl rfl rfl) ?_
      refine xl_pure rfl rfl rfl (pv_extract (v := .int _ _) rfl rfl rfl) ?_
      refine xl_pure rfl rfl rfl (pv_assign (v := .bool _) rfl rfl) ?_
      refine xl_pure rfl rfl rfl (pv_assign (v := .int _ _) rfl rfl) ?_
      refine xl_nil ?_
      refine xthen_normal ?_
      refine xc_seq ?_
      refine xc_region ?_
      refine xl_light rfl rfl rfl (lv_load (v := .agg _) rfl rfl (ld_blk_a m3_12 rfl rfl)) ?_
      refine xl_pure rfl rfl rfl (pv_move (v := .bool _) rfl rfl) ?_
      refine xl_pure rfl rfl rfl (pv_move (v := .bool _) rfl rfl) ?_
      refine xl_pure rfl rfl rfl (pv_eql_b rfl rfl rfl) ?_
      refine xl_pure rfl rfl rfl (pv_move (v := .bool _) rfl rfl) ?_
      refine xl_pure rfl rfl rfl (pv_move (v := .int _ _) rfl rfl) ?_
      refine xl_pure rfl rfl rfl (pv_move (v := .int _ _) rfl rfl) ?_
      refine xl_dec rfl rfl rfl (pv_eql rfl rfl rfl) (fun h5_7 => ?_) (fun h5_7 => ?_)
      · skip
        refine xl_pure rfl rfl rfl (pv_pick_t (v := .bool _) rfl rfl rfl) ?_
        refine xl_store rfl rfl (hv_storeA (vs := [.slice _ _ _, .slice _ _ _]) rfl rfl rfl (m0_2) rfl (by rfl) rfl) ?_
        rintro v5_9 H5_9 ⟨hU5_9, hZ5_9⟩
        have m0_0 := m0_0.off hU5_9.but (by first | exact nm0_0_0_2 | exact ⟨m0_0.ne m0_2 rfl⟩ | exact ⟨m0_0.ne m0_2 (by assumption)⟩ | exact ⟨Ne.symm (m0_2.ne m0_0 (by assumption))⟩)
        have m0_1 := m0_1.off hU5_9.but (by first | exact nm0_1_0_2 | exact ⟨m0_1.ne m0_2 rfl⟩ | exact ⟨m0_1.ne m0_2 (by assumption)⟩ | exact ⟨Ne.symm (m0_2.ne m0_1 (by assumption))⟩)
        have m3_12 := m3_12.off hU5_9.but (by first | exact nm0_2_3_12.symm | exact ⟨m3_12.ne m0_2 rfl⟩ | exact ⟨m3_12.ne m0_2 (by assumption)⟩ | exact ⟨Ne.symm (m0_2.ne m3_12 (by assumption))⟩)
        have hL := hL.offT m0_2 hU5_9.but (by first | rfl | assumption)
        have hb := hb.offT m0_2 hU5_9.but (by first | rfl | assumption)
        have hX := hX.upd hU5_9.but gb0_2
        have m0_2 := hU5_9.blk
        refine xl_pure rfl rfl rfl (pv_assign (v := .bool _) rfl rfl) ?_
        refine xl_nil ?_
        refine xthen_normal ?_
        refine xc_ret ?_
        refine xblock_ret ?_
        refine xthen_ret ?_
        refine fin_ret (resv2 rfl (rv_c (ty := 45) rfl (ld_blk_a m0_2 rfl rfl)) (rv_t (v := .bool _) rfl)) ?_
        have hlen := congrArg List.length (sl_ask : (askS S f b o j).map Sd.sl = S.map Sd.sl); rw [List.length_map, List.length_map] at hlen
        refine ⟨_, _, _, a3_7, c3_7, ?_, hb, hL, iv_ask hI, sl_ask, hg1, fun i h => Nat.lt_of_lt_of_le (hg2 i h) (by have := hU5_9.but.size; exact this), hX⟩
        rw [hlen]
      · exact absurd rfl h5_7
  · skip
    refine xl_pure rfl rfl rfl (pv_assign (v := .bool _) rfl rfl) ?_
    refine xl_nil ?_
    refine xthen_normal ?_
    refine xc_cond_f rfl ?_
    refine xc_seq ?_
    refine xc_region ?_
    refine xl_dec rfl rfl rfl (pv_eql rfl rfl rfl) (fun h6_0 => ?_) (fun h6_0 => ?_)
    · skip
      refine xl_pure rfl rfl rfl (pv_assign (v := .bool _) rfl rfl) ?_
      refine xl_nil ?_
      refine xthen_normal ?_
      refine xc_cond_t rfl ?_
      refine xc_seq ?_
      have hnb2 : ¬ G b0_2 := fun h => by have := hG _ h; have := gb0_2.le; omega
      refine xc_region ?_
      refine xl_light rfl rfl rfl (lv_load (v := .agg _) rfl rfl (ld_blk_a m0_0 rfl rfl)) ?_
      refine xl_pure rfl rfl rfl (pv_fieldAddr rfl rfl) ?_
      refine xl_light rfl rfl rfl (lv_load (v := .int _ _) rfl rfl (ld_blk m0_1 rfl)) ?_
      refine xl_heavy rfl rfl rfl (hv_call (g := 34) rfl rfl (dleave (hsG hX) hN hx hI (fun i h => Nat.lt_of_lt_of_le (hG i h) hX.size) (Nat.le_trans hB hX.size) j) rfl) ?_
      rintro v7_3 H7_3 ⟨a7_3, c7_3, rfl, hL7_3, hE7_3⟩
      have hb := hb.ext hE7_3
      have hx := hx.ext hE7_3
      have m0_0 := m0_0.ext hE7_3
      have m0_1 := m0_1.ext hE7_3
      have m0_2 := m0_2.ext hE7_3
      have hX := hX.transE hE7_3
      refine xl_pure rfl rfl rfl (pv_move (v := .tuple _) rfl rfl) ?_
      refine xl_pure rfl rfl rfl (pv_extract (v := .agg _) rfl rfl rfl) ?_
      refine xl_pure rfl rfl rfl (pv_extract (v := .int _ _) rfl rfl rfl) ?_
      refine xl_pure rfl rfl rfl (pv_extract (v := .int _ _) rfl rfl rfl) ?_
      refine xl_heavy rfl rfl rfl (hv_alloc rfl rfl) ?_
      rintro v7_8 H7_8 ⟨b7_8, rfl, hN7_8⟩
      have gb7_8 := hX.fresh hN7_8
      have nm0_0_7_8 := m0_0.apart hN7_8
      have nm0_1_7_8 := m0_1.apart hN7_8
      have nm0_2_7_8 := m0_2.apart hN7_8
      have hb := hb.ext hN7_8.ext
      have hx := hx.ext hN7_8.ext
      have m0_0 := m0_0.ext hN7_8.ext
      have m0_1 := m0_1.ext hN7_8.ext
      have m0_2 := m0_2.ext hN7_8.ext
      have hL7_3 := hL7_3.ext hN7_8.ext
      have hX := hX.transE hN7_8.ext
      have m7_8 := hN7_8.blk
      have hbB3 := Nat.le_trans hB gb7_8.le
      have hnb3 : ¬ G b7_8 := fun h => by have := hG _ h; have := gb7_8.le; omega
      refine xl_store rfl rfl (hv_storeA (vs := [.slice _ _ _, .slice _ _ _]) rfl rfl rfl (m7_8) rfl (by rfl) rfl) ?_
      rintro v7_9 H7_9 ⟨hU7_9, hZ7_9⟩
      have hb := hb.offT m7_8 hU7_9.but (by first | rfl | assumption)
      have hx := hx.offT m7_8 hU7_9.but (by first | rfl | assumption)
      have m0_0 := m0_0.off hU7_9.but (by first | exact nm0_0_7_8 | exact ⟨m0_0.ne m7_8 rfl⟩ | exact ⟨m0_0.ne m7_8 (by assumption)⟩ | exact ⟨Ne.symm (m7_8.ne m0_0 (by assumption))⟩)
      have m0_1 := m0_1.off hU7_9.but (by first | exact nm0_1_7_8 | exact ⟨m0_1.ne m7_8 rfl⟩ | exact ⟨m0_1.ne m7_8 (by assumption)⟩ | exact ⟨Ne.symm (m7_8.ne m0_1 (by assumption))⟩)
      have m0_2 := m0_2.off hU7_9.but (by first | exact nm0_2_7_8 | exact ⟨m0_2.ne m7_8 rfl⟩ | exact ⟨m0_2.ne m7_8 (by assumption)⟩ | exact ⟨Ne.symm (m7_8.ne m0_2 (by assumption))⟩)
      have hL7_3 := hL7_3.offT m7_8 hU7_9.but (by first | rfl | assumption)
      have hX := hX.upd hU7_9.but gb7_8
      have m7_8 := hU7_9.blk
      refine xl_pure rfl rfl rfl (pv_assign (v := .int _ _) rfl rfl) ?_
      refine xl_pure rfl rfl rfl (pv_assign (v := .int _ _) rfl rfl) ?_
      refine xl_nil ?_
      refine xthen_normal ?_
      refine xc_seq ?_
      refine xc_region ?_
      refine xl_pure rfl rfl rfl (pv_move (v := .pointer _) rfl rfl) ?_
      refine xl_pure rfl rfl rfl (pv_fieldAddr rfl rfl) ?_
      refine xl_light rfl rfl rfl (lv_load (v := .int _ _) rfl rfl (ld_blk m0_1 rfl)) ?_
      refine xl_heavy rfl rfl rfl (hv_call (g := 10) rfl rfl (leaveB hb hI.gs hI.fm' j) rfl) ?_
      rintro v8_3 H8_3 ⟨rfl, hb8_3, hK8_3⟩
      have hn_0 : ¬ G b0_0 := fun h => by have := hG _ h; have := gb0_0.le; omega
      have hn_1 : ¬ G b0_1 := fun h => by have := hG _ h; have := gb0_1.le; omega
      have hn_2 : ¬ G b0_2 := fun h => by have := hG _ h; have := gb0_2.le; omega
      have hn_3 : ¬ G b7_8 := fun h => by have := hG _ h; have := gb7_8.le; omega
      have hn2 : ¬ Gn G H7_9 H8_3 b0_2 := fun h => h.elim hn_2 (fun h => by have := m0_2.lt; omega)
      have hg1 : ∀ i, Gn G H7_9 H8_3 i → G i ∨ H.size ≤ i := fun i h => h.imp id (fun h => Nat.le_trans hX.size h.1)
      have hg2 : ∀ i, Gn G H7_9 H8_3 i → i < Array.size H8_3 := fun i h => h.elim (fun h => Nat.lt_of_lt_of_le (hG i h) (Nat.le_trans hX.size hK8_3.size)) (fun h => h.2)
      have m0_0 := m0_0.keep hK8_3 hn_0
      have m0_1 := m0_1.keep hK8_3 hn_1
      have m0_2 := m0_2.keep hK8_3 hn_2
      have m7_8 := m7_8.keep hK8_3 hn_3
      have hL := hL7_3.keep hK8_3
      have hb := hb8_3
      have hX := hX.trans hK8_3
      refine xl_pure rfl rfl rfl (pv_move (v := .tuple _) rfl rfl) ?_
      refine xl_pure rfl rfl rfl (pv_extract (v := .int _ _) rfl rfl rfl) ?_
      refine xl_pure rfl rfl rfl (pv_extract (v := .int _ _) rfl rfl rfl) ?_
      refine xl_pure rfl rfl rfl (pv_assign (v := .int _ _) rfl rfl) ?_
      refine xl_pure rfl rfl rfl (pv_assign (v := .int _ _) rfl rfl) ?_
      refine xl_nil ?_
      refine xthen_normal ?_
      refine xc_seq ?_
      refine xc_region ?_
      refine xl_light rfl rfl rfl (lv_load (v := .agg _) rfl rfl (ld_blk_a m7_8 rfl rfl)) ?_
      refine xl_pure rfl rfl rfl (pv_move (v := .int _ _) rfl rfl) ?_
      refine xl_pure rfl rfl rfl (pv_move (v := .int _ _) rfl rfl) ?_
      refine xl_dec rfl rfl rfl (pv_eql rfl rfl rfl) (fun h9_3 => ?_) (fun h9_3 => ?_)
      · skip
        refine xl_pure rfl rfl rfl (pv_move (v := .bool _) rfl rfl) ?_
        refine xl_pure rfl rfl rfl (pv_move (v := .int _ _) rfl rfl) ?_
        refine xl_pure rfl rfl rfl (pv_move (v := .int _ _) rfl rfl) ?_
        refine xl_dec rfl rfl rfl (pv_eql rfl rfl rfl) (fun h9_7 => ?_) (fun h9_7 => ?_)
        · skip
          refine xl_pure rfl rfl rfl (pv_pick_t (v := .bool _) rfl rfl rfl) ?_
          refine xl_store rfl rfl (hv_storeA (vs := [.slice _ _ _, .slice _ _ _]) rfl rfl rfl (m0_2) rfl (by rfl) rfl) ?_
          rintro v9_9 H9_9 ⟨hU9_9, hZ9_9⟩
          have m0_0 := m0_0.off hU9_9.but (by first | exact nm0_0_0_2 | exact ⟨m0_0.ne m0_2 rfl⟩ | exact ⟨m0_0.ne m0_2 (by assumption)⟩ | exact ⟨Ne.symm (m0_2.ne m0_0 (by assumption))⟩)
          have m0_1 := m0_1.off hU9_9.but (by first | exact nm0_1_0_2 | exact ⟨m0_1.ne m0_2 rfl⟩ | exact ⟨m0_1.ne m0_2 (by assumption)⟩ | exact ⟨Ne.symm (m0_2.ne m0_1 (by assumption))⟩)
          have m7_8 := m7_8.off hU9_9.but (by first | exact nm0_2_7_8.symm | exact ⟨m7_8.ne m0_2 rfl⟩ | exact ⟨m7_8.ne m0_2 (by assumption)⟩ | exact ⟨Ne.symm (m0_2.ne m7_8 (by assumption))⟩)
          have hL := hL.offT m0_2 hU9_9.but (by first | rfl | assumption)
          have hb := hb.offT m0_2 hU9_9.but (by first | rfl | assumption)
          have hX := hX.upd hU9_9.but gb0_2
          have m0_2 := hU9_9.blk
          refine xl_pure rfl rfl rfl (pv_assign (v := .bool _) rfl rfl) ?_
          refine xl_nil ?_
          refine xthen_normal ?_
          refine xc_ret ?_
          refine xblock_ret ?_
          refine xthen_ret ?_
          refine fin_ret (resv2 rfl (rv_c (ty := 45) rfl (ld_blk_a m0_2 rfl rfl)) (rv_t (v := .bool _) rfl)) ?_
          have hlen := congrArg List.length (sl_lev : (levS S f j).map Sd.sl = S.map Sd.sl); rw [List.length_map, List.length_map] at hlen
          refine ⟨_, _, _, a7_3, c7_3, ?_, hb, hL, iv_lev hI, sl_lev, hg1, fun i h => Nat.lt_of_lt_of_le (hg2 i h) (by have := hU9_9.but.size; exact this), hX⟩
          rw [hlen]
        · exact absurd rfl h9_7
      · exact absurd rfl h9_3
    · skip
      refine xl_pure rfl rfl rfl (pv_assign (v := .bool _) rfl rfl) ?_
      refine xl_nil ?_
      refine xthen_normal ?_
      refine xc_cond_f rfl ?_
      refine xc_skip ?_
      refine xblock_normal ?_
      refine xthen_normal ?_
      refine xc_seq ?_
      have hnb2 : ¬ G b0_2 := fun h => by have := hG _ h; have := gb0_2.le; omega
      refine xc_region ?_
      refine xl_light rfl rfl rfl (lv_load (v := .agg _) rfl rfl (ld_blk_a m0_0 rfl rfl)) ?_
      refine xl_pure rfl rfl rfl (pv_fieldAddr rfl rfl) ?_
      refine xl_light rfl rfl rfl (lv_load (v := .int _ _) rfl rfl (ld_blk m0_1 rfl)) ?_
      refine xl_heavy rfl rfl rfl (hv_call (g := 35) rfl rfl (dwhere (hsG hX) hN hx hI j) rfl) ?_
      rintro v10_3 H10_3 ⟨hv10_3, hE10_3⟩
      have hb := hb.ext hE10_3
      have hx := hx.ext hE10_3
      have m0_0 := m0_0.ext hE10_3
      have m0_1 := m0_1.ext hE10_3
      have m0_2 := m0_2.ext hE10_3
      have hX := hX.transE hE10_3
      obtain ⟨x1, x2, x3, x4, hw⟩ := whV_t S f j
      rw [hw] at hv10_3
      subst hv10_3
      refine xl_pure rfl rfl rfl (pv_move (v := .tuple _) rfl rfl) ?_
      refine xl_pure rfl rfl rfl (pv_extract (v := .int _ _) rfl rfl rfl) ?_
      refine xl_pure rfl rfl rfl (pv_extract (v := .int _ _) rfl rfl rfl) ?_
      refine xl_pure rfl rfl rfl (pv_extract (v := .int _ _) rfl rfl rfl) ?_
      refine xl_pure rfl rfl rfl (pv_extract (v := .int _ _) rfl rfl rfl) ?_
      refine xl_pure rfl rfl rfl (pv_assign (v := .int _ _) rfl rfl) ?_
      refine xl_pure rfl rfl rfl (pv_assign (v := .int _ _) rfl rfl) ?_
      refine xl_pure rfl rfl rfl (pv_assign (v := .int _ _) rfl rfl) ?_
      refine xl_pure rfl rfl rfl (pv_assign (v := .int _ _) rfl rfl) ?_
      refine xl_nil ?_
      refine xthen_normal ?_
      refine xc_seq ?_
      refine xc_region ?_
      refine xl_pure rfl rfl rfl (pv_move (v := .pointer _) rfl rfl) ?_
      refine xl_pure rfl rfl rfl (pv_fieldAddr rfl rfl) ?_
      refine xl_light rfl rfl rfl (lv_load (v := .int _ _) rfl rfl (ld_blk m0_1 rfl)) ?_
      refine xl_heavy rfl rfl rfl (hv_call (g := 14) rfl rfl (whereB hb hI.gs hI.fm' j) rfl) ?_
      rintro v11_3 H11_3 ⟨hv11_3, rfl⟩
      rw [hw] at hv11_3
      subst hv11_3
      refine xl_pure rfl rfl rfl (pv_move (v := .tuple _) rfl rfl) ?_
      refine xl_pure rfl rfl rfl (pv_extract (v := .int _ _) rfl rfl rfl) ?_
      refine xl_pure rfl rfl rfl (pv_extract (v := .int _ _) rfl rfl rfl) ?_
      refine xl_pure rfl rfl rfl (pv_extract (v := .int _ _) rfl rfl rfl) ?_
      refine xl_pure rfl rfl rfl (pv_extract (v := .int _ _) rfl rfl rfl) ?_
      refine xl_pure rfl rfl rfl (pv_assign (v := .int _ _) rfl rfl) ?_
      refine xl_pure rfl rfl rfl (pv_assign (v := .int _ _) rfl rfl) ?_
      refine xl_pure rfl rfl rfl (pv_assign (v := .int _ _) rfl rfl) ?_
      refine xl_pure rfl rfl rfl (pv_assign (v := .int _ _) rfl rfl) ?_
      refine xl_nil ?_
      refine xthen_normal ?_
      refine xc_seq ?_
      refine xc_region ?_
      refine xl_light rfl rfl rfl (lv_load (v := .agg _) rfl rfl (ld_blk_a m0_0 rfl rfl)) ?_
      refine xl_pure rfl rfl rfl (pv_fieldAddr rfl rfl) ?_
      refine xl_light rfl rfl rfl (lv_load (v := .int _ _) rfl rfl (ld_blk m0_1 rfl)) ?_
      refine xl_pure rfl rfl rfl (pv_fieldAddr rfl rfl) ?_
      refine xl_light rfl rfl rfl (lv_load (v := .int _ _) rfl rfl (ld_blk m0_1 rfl)) ?_
      refine xl_heavy rfl rfl rfl (hv_call (g := 36) rfl rfl (dfree (hsG hX) hN hx hI b o) rfl) ?_
      rintro v12_5 H12_5 ⟨hv12_5, hE12_5⟩
      have hb := hb.ext hE12_5
      have hx := hx.ext hE12_5
      have m0_0 := m0_0.ext hE12_5
      have m0_1 := m0_1.ext hE12_5
      have m0_2 := m0_2.ext hE12_5
      have hX := hX.transE hE12_5
      obtain ⟨y1, y2, hw2⟩ := freV_t S b o
      rw [hw2] at hv12_5
      subst hv12_5
      refine xl_pure rfl rfl rfl (pv_move (v := .tuple _) rfl rfl) ?_
      refine xl_pure rfl rfl rfl (pv_extract (v := .int _ _) rfl rfl rfl) ?_
      refine xl_pure rfl rfl rfl (pv_extract (v := .int _ _) rfl rfl rfl) ?_
      refine xl_pure rfl rfl rfl (pv_assign (v := .int _ _) rfl rfl) ?_
      refine xl_pure rfl rfl rfl (pv_assign (v := .int _ _) rfl rfl) ?_
      refine xl_nil ?_
      refine xthen_normal ?_
      refine xc_seq ?_
      refine xc_region ?_
      refine xl_pure rfl rfl rfl (pv_move (v := .pointer _) rfl rfl) ?_
      refine xl_pure rfl rfl rfl (pv_fieldAddr rfl rfl) ?_
      refine xl_light rfl rfl rfl (lv_load (v := .int _ _) rfl rfl (ld_blk m0_1 rfl)) ?_
      refine xl_pure rfl rfl rfl (pv_fieldAddr rfl rfl) ?_
      refine xl_light rfl rfl rfl (lv_load (v := .int _ _) rfl rfl (ld_blk m0_1 rfl)) ?_
      refine xl_heavy rfl rfl rfl (hv_call (g := 15) rfl rfl (freeB hb hI.gs b o) rfl) ?_
      rintro v13_5 H13_5 ⟨hv13_5, rfl⟩
      rw [hw2] at hv13_5
      subst hv13_5
      refine xl_pure rfl rfl rfl (pv_move (v := .tuple _) rfl rfl) ?_
      refine xl_pure rfl rfl rfl (pv_extract (v := .int _ _) rfl rfl rfl) ?_
      refine xl_pure rfl rfl rfl (pv_extract (v := .int _ _) rfl rfl rfl) ?_
      refine xl_pure rfl rfl rfl (pv_assign (v := .int _ _) rfl rfl) ?_
      refine xl_pure rfl rfl rfl (pv_assign (v := .int _ _) rfl rfl) ?_
      refine xl_nil ?_
      refine xthen_normal ?_
      refine xc_seq ?_
      refine xc_region ?_
      refine xl_light rfl rfl rfl (lv_load (v := .agg _) rfl rfl (ld_blk_a m0_0 rfl rfl)) ?_
      refine xl_pure rfl rfl rfl (pv_move (v := .int _ _) rfl rfl) ?_
      refine xl_pure rfl rfl rfl (pv_move (v := .int _ _) rfl rfl) ?_
      refine xl_dec rfl rfl rfl (pv_eql rfl rfl rfl) (fun h14_3 => ?_) (fun h14_3 => ?_)
      · skip
        refine xl_pure rfl rfl rfl (pv_move (v := .bool _) rfl rfl) ?_
        refine xl_pure rfl rfl rfl (pv_move (v := .int _ _) rfl rfl) ?_
        refine xl_pure rfl rfl rfl (pv_move (v := .int _ _) rfl rfl) ?_
        refine xl_dec rfl rfl rfl (pv_eql rfl rfl rfl) (fun h14_7 => ?_) (fun h14_7 => ?_)
        · skip
          refine xl_pure rfl rfl rfl (pv_pick_t (v := .bool _) rfl rfl rfl) ?_
          refine xl_pure rfl rfl rfl (pv_move (v := .bool _) rfl rfl) ?_
          refine xl_pure rfl rfl rfl (pv_move (v := .int _ _) rfl rfl) ?_
          refine xl_pure rfl rfl rfl (pv_move (v := .int _ _) rfl rfl) ?_
          refine xl_dec rfl rfl rfl (pv_eql rfl rfl rfl) (fun h14_12 => ?_) (fun h14_12 => ?_)
          · skip
            refine xl_pure rfl rfl rfl (pv_pick_t (v := .bool _) rfl rfl rfl) ?_
            refine xl_pure rfl rfl rfl (pv_move (v := .bool _) rfl rfl) ?_
            refine xl_pure rfl rfl rfl (pv_move (v := .int _ _) rfl rfl) ?_
            refine xl_pure rfl rfl rfl (pv_move (v := .int _ _) rfl rfl) ?_
            refine xl_dec rfl rfl rfl (pv_eql rfl rfl rfl) (fun h14_17 => ?_) (fun h14_17 => ?_)
            · skip
              refine xl_pure rfl rfl rfl (pv_pick_t (v := .bool _) rfl rfl rfl) ?_
              refine xl_pure rfl rfl rfl (pv_move (v := .bool _) rfl rfl) ?_
              refine xl_pure rfl rfl rfl (pv_move (v := .int _ _) rfl rfl) ?_
              refine xl_pure rfl rfl rfl (pv_move (v := .int _ _) rfl rfl) ?_
              refine xl_dec rfl rfl rfl (pv_eql rfl rfl rfl) (fun h14_22 => ?_) (fun h14_22 => ?_)
              · skip
                refine xl_pure rfl rfl rfl (pv_pick_t (v := .bool _) rfl rfl rfl) ?_
                refine xl_pure rfl rfl rfl (pv_move (v := .bool _) rfl rfl) ?_
                refine xl_pure rfl rfl rfl (pv_move (v := .int _ _) rfl rfl) ?_
                refine xl_pure rfl rfl rfl (pv_move (v := .int _ _) rfl rfl) ?_
                refine xl_dec rfl rfl rfl (pv_eql rfl rfl rfl) (fun h14_27 => ?_) (fun h14_27 => ?_)
                · skip
                  refine xl_pure rfl rfl rfl (pv_pick_t (v := .bool _) rfl rfl rfl) ?_
                  refine xl_store rfl rfl (hv_storeA (vs := [.slice _ _ _, .slice _ _ _]) rfl rfl rfl (m0_2) rfl (by rfl) rfl) ?_
                  rintro v14_29 H14_29 ⟨hU14_29, hZ14_29⟩
                  have hb := hb.offT m0_2 hU14_29.but (by first | rfl | assumption)
                  have hx := hx.offT m0_2 hU14_29.but (by first | rfl | assumption)
                  have m0_0 := m0_0.off hU14_29.but (by first | exact nm0_0_0_2 | exact ⟨m0_0.ne m0_2 rfl⟩ | exact ⟨m0_0.ne m0_2 (by assumption)⟩ | exact ⟨Ne.symm (m0_2.ne m0_0 (by assumption))⟩)
                  have m0_1 := m0_1.off hU14_29.but (by first | exact nm0_1_0_2 | exact ⟨m0_1.ne m0_2 rfl⟩ | exact ⟨m0_1.ne m0_2 (by assumption)⟩ | exact ⟨Ne.symm (m0_2.ne m0_1 (by assumption))⟩)
                  have hX := hX.upd hU14_29.but gb0_2
                  have m0_2 := hU14_29.blk
                  refine xl_pure rfl rfl rfl (pv_assign (v := .bool _) rfl rfl) ?_
                  refine xl_nil ?_
                  refine xthen_normal ?_
                  refine xc_ret ?_
                  refine fin_ret (resv2 rfl (rv_c (ty := 45) rfl (ld_blk_a m0_2 rfl rfl)) (rv_t (v := .bool _) rfl)) ?_
                  exact ⟨S, f, G, xa, xc, rfl, hb, hx, hI, rfl, fun i h => .inl h, (fun i h => Nat.lt_of_lt_of_le (hG i h) hX.size), hX⟩
                · exact absurd rfl h14_27
              · exact absurd rfl h14_22
            · exact absurd rfl h14_17
          · exact absurd rfl h14_12
        · exact absurd rfl h14_7
      · exact absurd rfl h14_3
end Go.XG
