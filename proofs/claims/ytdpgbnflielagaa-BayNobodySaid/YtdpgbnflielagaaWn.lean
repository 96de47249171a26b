/-
  Walks of the seat's functions over the logic XG: each function, what it computes. Printed by a program out of wip/walks.py.
-/
import Derived.Test.YtdpgbnflielagaaI
import Derived.Test.YtdpgbnflielagaaN
import Derived.Test.YtdpgbnflielagaaV
import Derived.Test.YtdpgbnflielagaaWa
import Derived.Test.YtdpgbnflielagaaWb
import Derived.Test.YtdpgbnflielagaaWc
import Derived.Test.YtdpgbnflielagaaWd
import Derived.Test.YtdpgbnflielagaaWe
import Derived.Test.YtdpgbnflielagaaWf
import Derived.Test.YtdpgbnflielagaaWg
import Derived.Test.YtdpgbnflielagaaWh
import Derived.Test.YtdpgbnflielagaaWi
import Derived.Test.YtdpgbnflielagaaWj
import Derived.Test.YtdpgbnflielagaaWk
import Derived.Test.YtdpgbnflielagaaWl
import Derived.Test.YtdpgbnflielagaaWm
namespace Go.XG
open Go.Proofs
set_option maxRecDepth 4000
set_option maxHeartbeats 4000000
theorem c3 {O : Outer} {H : Heap} (sb : Int) (hsb : 0 ≤ sb ∧ sb < 256) {a : Option Addr} {c : Nat} {l : List Int} (hA : l.length = 0 ∨ ∃ b off, a = some ⟨b, off, none⟩ ∧ ∀ k, k < l.length → cellAt H b (off + k * 1) = some (.int .u8 (l.getD k 0))) (hB : ∀ k, k < l.length → 0 ≤ l.getD k 0 ∧ l.getD k 0 < 256) :
    FnC Try.prog 3 #[.int .u8 sb, .slice a l.length c] O H (fun v H' => v = .bool true ∧ Ext H H') := by
  have hn14 : 1 ≤ (1 + sb % 4) ∧ (1 + sb % 4) ≤ 4 := by omega
  refine fn_enter (A := [.int .u8 sb, .slice a l.length c]) Try.func3 rfl rfl ?_
  have hX := Ext.refl H
  refine xc_seq ?_
  refine xc_region ?_
  refine xl_pure rfl rfl rfl (pv_assign (v := .bool _) rfl rfl) ?_
  refine xl_nil ?_
  refine xthen_normal ?_
  refine xc_seq ?_
  refine xc_region ?_
  refine xl_pure rfl rfl rfl (pv_move (v := .int _ _) rfl rfl) ?_
  refine xl_pure rfl rfl rfl (pv_conv rfl rfl (fit_i64 (by omega))) ?_
  refine xl_pure rfl rfl rfl (pv_remv (r := sb % 4) rfl rfl rfl (by decide) (Int.tmod_eq_emod_of_nonneg hsb.1)) ?_
  refine xl_pure rfl rfl rfl (pv_add rfl rfl rfl (fit_i64 (by omega))) ?_
  refine xl_pure rfl rfl rfl (pv_assign (v := .int _ _) rfl rfl) ?_
  refine xl_nil ?_
  refine xthen_normal ?_
  refine xc_seq ?_
  refine xc_region ?_
  refine xl_pure rfl rfl rfl (pv_move (v := .int _ _) rfl rfl) ?_
  refine xl_pure rfl rfl rfl (pv_build_s (cs := [.int _ _, .int _ _, .int _ _, .int _ _]) rfl rfl rfl) ?_
  refine xl_heavy rfl rfl rfl (hv_buildSlice (cs := [.int _ _, .int _ _, .int _ _, .int _ _]) rfl rfl rfl rfl rfl) ?_
  rintro v2_2 H2_2 ⟨b2_2, rfl, hN2_2⟩
  have gb2_2 := hX.fresh hN2_2
  have hX := hX.trans hN2_2.ext
  have m2_2 := hN2_2.blk
  refine xl_heavy rfl rfl rfl (hv_call (g := 7) rfl rfl (new_ (l := [[0, (1 + sb % 4), 0, 0]]) (blk_rowsT (k := 4) (ex := []) m2_2 (fun r hr => by simp at hr; subst hr; rfl)).rows (by show 1 < 1000000; decide)) rfl) ?_
  rintro v2_3 H2_3 ⟨hv2_3, hE2_3⟩
  have m2_2 := m2_2.ext hE2_3
  have hX := hX.trans hE2_3
  obtain ⟨bp, G, rfl, hb, hge⟩ : ∃ bp G, v2_3 = .tuple #[.pointer (some ⟨bp, 0, none⟩), .int .i64 0] ∧ BB H2_3 bp G (fS (1 + sb % 4) [] []) (fun _ => none) ∧ ∀ j, G j → H.size ≤ j := by rcases hv2_3 with ⟨_, bp, h1, h2⟩ | ⟨h, _⟩; exact ⟨bp, _, h1, h2, fun j hj => Nat.le_trans hN2_2.ext.size hj.1⟩; exact absurd (okN1 hn14) h
  refine xl_pure rfl rfl rfl (pv_move (v := .tuple _) rfl rfl) ?_
  refine xl_pure rfl rfl rfl (pv_extract (v := .pointer _) rfl rfl rfl) ?_
  refine xl_pure rfl rfl rfl (pv_extract (v := .int _ _) rfl rfl rfl) ?_
  refine xl_pure rfl rfl rfl (pv_assign (v := .pointer _) rfl rfl) ?_
  refine xl_pure rfl rfl rfl (pv_assign (v := .int _ _) rfl rfl) ?_
  refine xl_nil ?_
  refine xthen_normal ?_
  refine xc_seq ?_
  refine xc_seq ?_
  refine xc_region ?_
  refine xl_pure rfl rfl rfl (pv_move (v := .int _ _) rfl rfl) ?_
  refine xl_ndec rfl rfl rfl (pv_neq rfl rfl rfl) (fun h3_1 => ?_) (fun h3_1 => ?_)
  · skip
    refine xl_pure rfl rfl rfl (pv_move (v := .bool _) rfl rfl) ?_
    refine xl_pure rfl rfl rfl (pv_move (v := .pointer _) rfl rfl) ?_
    refine xl_pure rfl rfl rfl (pv_eql_pn rfl rfl rfl) ?_
    refine xl_pure rfl rfl rfl (pv_pick_f (v := .bool _) rfl rfl rfl) ?_
    refine xl_pure rfl rfl rfl (pv_move (v := .bool _) rfl rfl) ?_
    refine xl_pure rfl rfl rfl (pv_move (v := .slice _ _ _) rfl rfl) ?_
    refine xl_pure rfl rfl rfl (pv_len_l rfl rfl) ?_
    refine xl_dec rfl rfl rfl (pv_gtr rfl rfl rfl) (fun h3_9 => ?_) (fun h3_9 => ?_)
    · skip
      refine xl_pure rfl rfl rfl (pv_pick_f (v := .bool _) rfl rfl rfl) ?_
      refine xl_nil ?_
      refine xthen_normal ?_
      refine xc_cond_t rfl ?_
      refine xc_seq ?_
      refine xc_region ?_
      refine xl_pure rfl rfl rfl (pv_move (v := .int _ _) rfl rfl) ?_
      refine xl_dec rfl rfl rfl (pv_eql rfl rfl rfl) (fun h4_1 => ?_) (fun h4_1 => ?_)
      · skip
        refine xl_pure rfl rfl rfl (pv_move (v := .bool _) rfl rfl) ?_
        refine xl_pure rfl rfl rfl (pv_move (v := .pointer _) rfl rfl) ?_
        refine xl_pure rfl rfl rfl (pv_neq_pn rfl rfl rfl) ?_
        refine xl_pure rfl rfl rfl (pv_pick_t (v := .bool _) rfl rfl rfl) ?_
        refine xl_pure rfl rfl rfl (pv_move (v := .bool _) rfl rfl) ?_
        refine xl_heavy rfl rfl rfl (hv_call (g := 8) rfl rfl (awake) rfl) ?_
        rintro v4_7 H4_7 ⟨rfl, hE4_7⟩
        have m2_2 := m2_2.ext hE4_7
        have hX := hX.trans hE4_7
        refine xl_pure rfl rfl rfl (pv_pick_t (v := .bool _) rfl rfl rfl) ?_
        refine xl_pure rfl rfl rfl (pv_assign (v := .bool _) rfl rfl) ?_
        refine xl_nil ?_
        refine xthen_normal ?_
        refine xc_ret ?_
        refine xthen_ret ?_
        refine fin_ret (res1 (v := .bool _) rfl rfl) ?_
        exact ⟨rfl, hX⟩
      · exact absurd (by decide) h4_1
    · skip
      refine xl_pure rfl rfl rfl (pv_pick_f (v := .bool _) rfl rfl rfl) ?_
      refine xl_nil ?_
      refine xthen_normal ?_
      refine xc_cond_f rfl ?_
      refine xc_skip ?_
      refine xthen_normal ?_
      refine xc_seq ?_
      refine xc_region ?_
      refine xl_pure rfl rfl rfl (pv_assign (v := .int _ _) rfl rfl) ?_
      refine xl_pure rfl rfl rfl (pv_assign (v := .int _ _) rfl rfl) ?_
      refine xl_nil ?_
      refine xthen_normal ?_
      refine xc_seq ?_
      refine xc_seq ?_
      refine xc_region ?_
      refine xl_pure rfl rfl rfl (pv_assign (v := .int _ _) rfl rfl) ?_
      refine xl_nil ?_
      refine xthen_normal ?_
      refine xc_block ?_
      refine xc_loop (τ := Nat × Int × Int × (Nat → Prop) × List Int × List Int × Fn) (fun t => [(1, .slice a l.length c), (5, .int .i64 (1 + sb % 4)), (6, .pointer (some ⟨bp, 0, none⟩)), (8, .int .i64 t.2.1), (9, .int .i64 t.2.2.1), (10, .int .i64 (t.1 : Nat))]) (fun t H' => (t.1 ≤ l.length) ∧ (1 ≤ t.2.1 ∧ t.2.1 ≤ 1 + (t.1 : Int)) ∧ (Fair (1 + sb % 4) t.2.2.2.2.1 t.2.2.2.2.2.1 t.2.2.2.2.2.2 t.2.1 t.2.2.1) ∧ (BB H' bp t.2.2.2.1 (fS (1 + sb % 4) t.2.2.2.2.1 t.2.2.2.2.2.1) t.2.2.2.2.2.2) ∧ (∀ j, t.2.2.2.1 j → H.size ≤ j) ∧ (Ext H H')) (fun t H' => l.length - t.1) (0, 1, 0, G, [], [], (fun _ => none)) ?_ ?_ ?_
      · exact ⟨rfl, rfl, rfl, rfl, rfl, rfl, trivial⟩
      · skip
        exact ⟨Nat.zero_le _, ⟨by show (1 : Int) ≤ 1; decide, by show (1 : Int) ≤ 1 + ((0 : Nat) : Int); decide⟩, fair_new hn14, hb, hge, hX⟩
      · intro σ
        clear hX m2_2
        rintro ⟨i, nx, la, G, rn, wt, f⟩ Hl7 ⟨hi, hnx, hF, hb, hge, hX⟩
        replace hi : i ≤ l.length := hi
        replace hnx : 1 ≤ nx ∧ nx ≤ 1 + (i : Int) := hnx
        replace hF : Fair (1 + sb % 4) rn wt f nx la := hF
        replace hb : BB Hl7 bp G (fS (1 + sb % 4) rn wt) f := hb
        replace hge : ∀ j, G j → H.size ≤ j := hge
        replace hX : Ext H Hl7 := hX
        obtain ⟨g1, o1, hd1⟩ := u8At hA
        show XC _ _ _ (upds σ [(1, .slice a l.length c), (5, .int .i64 (1 + sb % 4)), (6, .pointer (some ⟨bp, 0, none⟩)), (8, .int .i64 nx), (9, .int .i64 la), (10, .int .i64 (i : Nat))]) _
        refine xc_seq ?_
        refine xc_seq ?_
        refine xc_region ?_
        refine xl_pure rfl rfl rfl (pv_move (v := .int _ _) rfl rfl) ?_
        refine xl_pure rfl rfl rfl (pv_move (v := .slice _ _ _) rfl rfl) ?_
        refine xl_pure rfl rfl rfl (pv_len_l rfl rfl) ?_
        refine xl_dec rfl rfl rfl (pv_lss rfl rfl rfl) (fun h7_3 => ?_) (fun h7_3 => ?_)
        · skip
          refine xl_nil ?_
          refine xthen_normal ?_
          refine xc_cond_t rfl ?_
          refine xc_skip ?_
          refine xthen_normal ?_
          refine xc_seq ?_
          refine xc_block ?_
          refine xc_seq ?_
          refine xc_seq ?_
          have hxb := hB i (by omega)
          refine xc_region ?_
          refine xl_pure rfl rfl rfl (pv_move (v := .slice _ _ _) rfl rfl) ?_
          refine xl_pure rfl rfl rfl (pv_move (v := .int _ _) rfl rfl) ?_
          refine xl_pure rfl rfl rfl (pv_indexAddr_l rfl (sl_eq (hd1 (by omega)).1) rfl (by omega)) ?_
          refine xl_light rfl rfl rfl (lv_load (v := .int _ _) rfl rfl (by exact cellAt_ext ((hd1 (by omega)).2 i (by omega)) hX)) ?_
          refine xl_pure rfl rfl rfl (pv_and (r := (l.getD i 0) % 2 ^ 1) rfl rfl rfl (mask_u8 1 _ 1 hxb.1 hxb.2 (by decide) (by decide))) ?_
          refine xl_dec rfl rfl rfl (pv_eql rfl rfl rfl) (fun h9_5 => ?_) (fun h9_5 => ?_)
          · skip
            refine xl_nil ?_
            refine xthen_normal ?_
            refine xc_cond_t rfl ?_
            refine xc_seq ?_
            refine xc_region ?_
            refine xl_pure rfl rfl rfl (pv_move (v := .pointer _) rfl rfl) ?_
            refine xl_pure rfl rfl rfl (pv_move (v := .int _ _) rfl rfl) ?_
            refine xl_heavy rfl rfl rfl (hv_call (g := 9) rfl rfl (askB hb (fair_gs hF) 1 0 nx) rfl) ?_
            rintro v10_2 H10_2 ⟨hv10_2, hb10_2, hK10_2⟩
            have hX1 := hX.size
            have hX := hX.keep hK10_2 hge
            have hge := gn_ge (H1 := H10_2) hge hX1
            rcases fair_ask hF ⟨by omega, by omega⟩ with ⟨e1, e2, e3, e4⟩ | ⟨e1, e2, e3, e4⟩ | ⟨e1, e2, e3, e4⟩
            · skip
              rw [e2, e1] at hv10_2
              subst hv10_2
              rw [e3, e4] at hb10_2
              have hb := hb10_2
              refine xl_pure rfl rfl rfl (pv_move (v := .tuple _) rfl rfl) ?_
              refine xl_pure rfl rfl rfl (pv_extract (v := .bool _) rfl rfl rfl) ?_
              refine xl_pure rfl rfl rfl (pv_extract (v := .int _ _) rfl rfl rfl) ?_
              refine xl_pure rfl rfl rfl (pv_assign (v := .bool _) rfl rfl) ?_
              refine xl_pure rfl rfl rfl (pv_assign (v := .int _ _) rfl rfl) ?_
              refine xl_nil ?_
              refine xthen_normal ?_
              refine xc_seq ?_
              refine xc_seq ?_
              refine xc_region ?_
              refine xl_pure rfl rfl rfl (pv_move (v := .int _ _) rfl rfl) ?_
              refine xl_dec rfl rfl rfl (pv_eql rfl rfl rfl) (fun h11_1 => ?_) (fun h11_1 => ?_)
              · skip
                refine xl_nil ?_
                refine xthen_normal ?_
                refine xc_cond_t rfl ?_
                refine xc_exit ?_
                refine xthen_exit ?_
                refine xthen_exit ?_
                refine xblock_same ?_
                refine xthen_normal ?_
                refine xc_region ?_
                refine xl_pure rfl rfl rfl (pv_move (v := .int _ _) rfl rfl) ?_
                refine xl_pure rfl rfl rfl (pv_add rfl rfl rfl (fit_i64 (by omega))) ?_
                refine xl_pure rfl rfl rfl (pv_assign (v := .int _ _) rfl rfl) ?_
                refine xl_nil ?_
                refine xthen_normal ?_
                first
                  | exact ⟨(i + 1, _, _, _, _, _, _), ⟨rfl, rfl, rfl, rfl, rfl, rfl, trivial⟩, ⟨by (try simp only); omega, ⟨hnx.1, by have := hnx.2; show nx ≤ 1 + ((i + 1 : Nat) : Int); omega⟩, hF, hb, hge, hX⟩, by (try simp only); omega⟩
                  | exact ⟨(i + 1, _, _, _, _, _, _), ⟨rfl, rfl, rfl, rfl, rfl, rfl, trivial⟩, ⟨by (try simp only); omega, ⟨by have := hnx.1; show (1 : Int) ≤ nx + 1; omega, by have := hnx.2; show nx + 1 ≤ 1 + ((i + 1 : Nat) : Int); omega⟩, e4, hb, hge, hX⟩, by (try simp only); omega⟩
                  | exact ⟨(i + 1, _, _, _, _, _, _), ⟨rfl, rfl, rfl, rfl, rfl, rfl, trivial⟩, ⟨by (try simp only); omega, ⟨by have := hnx.1; show (1 : Int) ≤ nx + 1; omega, by have := hnx.2; show nx + 1 ≤ 1 + ((i + 1 : Nat) : Int); omega⟩, e4, hb, hge, hX⟩, by (try simp only); omega⟩
                  | exact ⟨(i + 1, nx, la2, _, rn2, wt2, _), ⟨rfl, rfl, rfl, rfl, iv (by first | exact d1.symm | exact d2.symm | exact d3.symm), rfl, trivial⟩, ⟨by (try simp only); omega, ⟨hnx.1, by have := hnx.2; show nx ≤ 1 + ((i + 1 : Nat) : Int); omega⟩, hF2, hb, hge, hX⟩, by (try simp only); omega⟩
              · exact absurd (by decide) h11_1
            · skip
              rw [e2, e1] at hv10_2
              subst hv10_2
              rw [e3] at hb10_2
              have hb := hb10_2
              refine xl_pure rfl rfl rfl (pv_move (v := .tuple _) rfl rfl) ?_
              refine xl_pure rfl rfl rfl (pv_extract (v := .bool _) rfl rfl rfl) ?_
              refine xl_pure rfl rfl rfl (pv_extract (v := .int _ _) rfl rfl rfl) ?_
              refine xl_pure rfl rfl rfl (pv_assign (v := .bool _) rfl rfl) ?_
              refine xl_pure rfl rfl rfl (pv_assign (v := .int _ _) rfl rfl) ?_
              refine xl_nil ?_
              refine xthen_normal ?_
              refine xc_seq ?_
              refine xc_seq ?_
              refine xc_region ?_
              refine xl_pure rfl rfl rfl (pv_move (v := .int _ _) rfl rfl) ?_
              refine xl_dec rfl rfl rfl (pv_eql rfl rfl rfl) (fun h11_1 => ?_) (fun h11_1 => ?_)
              · exact absurd h11_1 (by decide)
              · skip
                refine xl_nil ?_
                refine xthen_normal ?_
                refine xc_cond_f rfl ?_
                refine xc_skip ?_
                refine xthen_normal ?_
                refine xc_seq ?_
                refine xc_seq ?_
                refine xc_region ?_
                refine xl_pure rfl rfl rfl (pv_move (v := .int _ _) rfl rfl) ?_
                refine xl_ndec rfl rfl rfl (pv_neq rfl rfl rfl) (fun h12_1 => ?_) (fun h12_1 => ?_)
                · skip
                  refine xl_pure rfl rfl rfl (pv_move (v := .bool _) rfl rfl) ?_
                  refine xl_pure rfl rfl rfl (pv_move (v := .bool _) rfl rfl) ?_
                  refine xl_pure rfl rfl rfl (pv_move (v := .bool _) rfl rfl) ?_
                  refine xl_pure rfl rfl rfl (pv_move (v := .int _ _) rfl rfl) ?_
                  refine xl_pure rfl rfl rfl (pv_move (v := .int _ _) rfl rfl) ?_
                  refine xl_dec rfl rfl rfl (pv_lss rfl rfl rfl) (fun h12_7 => ?_) (fun h12_7 => ?_)
                  · exact absurd h12_7 (by have := hF.lan; omega)
                  · skip
                    refine xl_pure rfl rfl rfl (pv_pick_t (v := .bool _) rfl rfl rfl) ?_
                    refine xl_pure rfl rfl rfl (pv_pick_f (v := .bool _) rfl rfl rfl) ?_
                    refine xl_nil ?_
                    refine xthen_normal ?_
                    refine xc_cond_f rfl ?_
                    refine xc_skip ?_
                    refine xthen_normal ?_
                    refine xc_seq ?_
                    refine xc_seq ?_
                    refine xc_region ?_
                    refine xl_pure rfl rfl rfl (pv_move (v := .bool _) rfl rfl) ?_
                    refine xl_nil ?_
                    refine xthen_normal ?_
                    refine xc_cond_t rfl ?_
                    refine xc_region ?_
                    refine xl_pure rfl rfl rfl (pv_move (v := .int _ _) rfl rfl) ?_
                    refine xl_pure rfl rfl rfl (pv_assign (v := .int _ _) rfl rfl) ?_
                    refine xl_nil ?_
                    refine xthen_normal ?_
                    refine xc_seq ?_
                    refine xc_region ?_
                    refine xl_pure rfl rfl rfl (pv_move (v := .int _ _) rfl rfl) ?_
                    refine xl_pure rfl rfl rfl (pv_add rfl rfl rfl (fit_i64 (by omega))) ?_
                    refine xl_pure rfl rfl rfl (pv_assign (v := .int _ _) rfl rfl) ?_
                    refine xl_nil ?_
                    refine xthen_normal ?_
                    refine xc_exit ?_
                    refine xthen_exit ?_
                    refine xblock_same ?_
                    refine xthen_normal ?_
                    refine xc_region ?_
                    refine xl_pure rfl rfl rfl (pv_move (v := .int _ _) rfl rfl) ?_
                    refine xl_pure rfl rfl rfl (pv_add rfl rfl rfl (fit_i64 (by omega))) ?_
                    refine xl_pure rfl rfl rfl (pv_assign (v := .int _ _) rfl rfl) ?_
                    refine xl_nil ?_
                    refine xthen_normal ?_
                    first
                      | exact ⟨(i + 1, _, _, _, _, _, _), ⟨rfl, rfl, rfl, rfl, rfl, rfl, trivial⟩, ⟨by (try simp only); omega, ⟨hnx.1, by have := hnx.2; show nx ≤ 1 + ((i + 1 : Nat) : Int); omega⟩, hF, hb, hge, hX⟩, by (try simp only); omega⟩
                      | exact ⟨(i + 1, _, _, _, _, _, _), ⟨rfl, rfl, rfl, rfl, rfl, rfl, trivial⟩, ⟨by (try simp only); omega, ⟨by have := hnx.1; show (1 : Int) ≤ nx + 1; omega, by have := hnx.2; show nx + 1 ≤ 1 + ((i + 1 : Nat) : Int); omega⟩, e4, hb, hge, hX⟩, by (try simp only); omega⟩
                      | exact ⟨(i + 1, _, _, _, _, _, _), ⟨rfl, rfl, rfl, rfl, rfl, rfl, trivial⟩, ⟨by (try simp only); omega, ⟨by have := hnx.1; show (1 : Int) ≤ nx + 1; omega, by have := hnx.2; show nx + 1 ≤ 1 + ((i + 1 : Nat) : Int); omega⟩, e4, hb, hge, hX⟩, by (try simp only); omega⟩
                      | exact ⟨(i + 1, nx, la2, _, rn2, wt2, _), ⟨rfl, rfl, rfl, rfl, iv (by first | exact d1.symm | exact d2.symm | exact d3.symm), rfl, trivial⟩, ⟨by (try simp only); omega, ⟨hnx.1, by have := hnx.2; show nx ≤ 1 + ((i + 1 : Nat) : Int); omega⟩, hF2, hb, hge, hX⟩, by (try simp only); omega⟩
                · exact absurd (by decide) h12_1
            · skip
              rw [e2, e1] at hv10_2
              subst hv10_2
              rw [e3] at hb10_2
              have hb := hb10_2
              refine xl_pure rfl rfl rfl (pv_move (v := .tuple _) rfl rfl) ?_
              refine xl_pure rfl rfl rfl (pv_extract (v := .bool _) rfl rfl rfl) ?_
              refine xl_pure rfl rfl rfl (pv_extract (v := .int _ _) rfl rfl rfl) ?_
              refine xl_pure rfl rfl rfl (pv_assign (v := .bool _) rfl rfl) ?_
              refine xl_pure rfl rfl rfl (pv_assign (v := .int _ _) rfl rfl) ?_
              refine xl_nil ?_
              refine xthen_normal ?_
              refine xc_seq ?_
              refine xc_seq ?_
              refine xc_region ?_
              refine xl_pure rfl rfl rfl (pv_move (v := .int _ _) rfl rfl) ?_
              refine xl_dec rfl rfl rfl (pv_eql rfl rfl rfl) (fun h11_1 => ?_) (fun h11_1 => ?_)
              · exact absurd h11_1 (by decide)
              · skip
                refine xl_nil ?_
                refine xthen_normal ?_
                refine xc_cond_f rfl ?_
                refine xc_skip ?_
                refine xthen_normal ?_
                refine xc_seq ?_
                refine xc_seq ?_
                refine xc_region ?_
                refine xl_pure rfl rfl rfl (pv_move (v := .int _ _) rfl rfl) ?_
                refine xl_ndec rfl rfl rfl (pv_neq rfl rfl rfl) (fun h12_1 => ?_) (fun h12_1 => ?_)
                · skip
                  refine xl_pure rfl rfl rfl (pv_move (v := .bool _) rfl rfl) ?_
                  refine xl_pure rfl rfl rfl (pv_move (v := .bool _) rfl rfl) ?_
                  refine xl_pure rfl rfl rfl (pv_move (v := .bool _) rfl rfl) ?_
                  refine xl_skip rfl rfl rfl ?_
                  refine xl_skip rfl rfl rfl ?_
                  refine xl_skip rfl rfl rfl ?_
                  refine xl_pure rfl rfl rfl (pv_pick_f (v := .bool _) rfl rfl rfl) ?_
                  refine xl_pure rfl rfl rfl (pv_pick_f (v := .bool _) rfl rfl rfl) ?_
                  refine xl_nil ?_
                  refine xthen_normal ?_
                  refine xc_cond_f rfl ?_
                  refine xc_skip ?_
                  refine xthen_normal ?_
                  refine xc_seq ?_
                  refine xc_seq ?_
                  refine xc_region ?_
                  refine xl_pure rfl rfl rfl (pv_move (v := .bool _) rfl rfl) ?_
                  refine xl_nil ?_
                  refine xthen_normal ?_
                  refine xc_cond_f rfl ?_
                  refine xc_skip ?_
                  refine xthen_normal ?_
                  refine xc_seq ?_
                  refine xc_region ?_
                  refine xl_pure rfl rfl rfl (pv_move (v := .int _ _) rfl rfl) ?_
                  refine xl_pure rfl rfl rfl (pv_add rfl rfl rfl (fit_i64 (by omega))) ?_
                  refine xl_pure rfl rfl rfl (pv_assign (v := .int _ _) rfl rfl) ?_
                  refine xl_nil ?_
                  refine xthen_normal ?_
                  refine xc_exit ?_
                  refine xthen_exit ?_
                  refine xblock_same ?_
                  refine xthen_normal ?_
                  refine xc_region ?_
                  refine xl_pure rfl rfl rfl (pv_move (v := .int _ _) rfl rfl) ?_
                  refine xl_pure rfl rfl rfl (pv_add rfl rfl rfl (fit_i64 (by omega))) ?_
                  refine xl_pure rfl rfl rfl (pv_assign (v := .int _ _) rfl rfl) ?_
                  refine xl_nil ?_
                  refine xthen_normal ?_
                  first
                    | exact ⟨(i + 1, _, _, _, _, _, _), ⟨rfl, rfl, rfl, rfl, rfl, rfl, trivial⟩, ⟨by (try simp only); omega, ⟨hnx.1, by have := hnx.2; show nx ≤ 1 + ((i + 1 : Nat) : Int); omega⟩, hF, hb, hge, hX⟩, by (try simp only); omega⟩
                    | exact ⟨(i + 1, _, _, _, _, _, _), ⟨rfl, rfl, rfl, rfl, rfl, rfl, trivial⟩, ⟨by (try simp only); omega, ⟨by have := hnx.1; show (1 : Int) ≤ nx + 1; omega, by have := hnx.2; show nx + 1 ≤ 1 + ((i + 1 : Nat) : Int); omega⟩, e4, hb, hge, hX⟩, by (try simp only); omega⟩
                    | exact ⟨(i + 1, _, _, _, _, _, _), ⟨rfl, rfl, rfl, rfl, rfl, rfl, trivial⟩, ⟨by (try simp only); omega, ⟨by have := hnx.1; show (1 : Int) ≤ nx + 1; omega, by have := hnx.2; show nx + 1 ≤ 1 + ((i + 1 : Nat) : Int); omega⟩, e4, hb, hge, hX⟩, by (try simp only); omega⟩
                    | exact ⟨(i + 1, nx, la2, _, rn2, wt2, _), ⟨rfl, rfl, rfl, rfl, iv (by first | exact d1.symm | exact d2.symm | exact d3.symm), rfl, trivial⟩, ⟨by (try simp only); omega, ⟨hnx.1, by have := hnx.2; show nx ≤ 1 + ((i + 1 : Nat) : Int); omega⟩, hF2, hb, hge, hX⟩, by (try simp only); omega⟩
                · exact absurd (by decide) h12_1
          · skip
            refine xl_nil ?_
            refine xthen_normal ?_
            refine xc_cond_f rfl ?_
            refine xc_skip ?_
            refine xthen_normal ?_
            refine xc_seq ?_
            have hm0 := Int.emod_nonneg ((l.getD i 0) / 2) (show nx ≠ 0 by omega)
            have hm1 := Int.emod_lt_of_pos ((l.getD i 0) / 2) (show 0 < nx by omega)
            refine xc_region ?_
            refine xl_pure rfl rfl rfl (pv_move (v := .pointer _) rfl rfl) ?_
            refine xl_pure rfl rfl rfl (pv_move (v := .slice _ _ _) rfl rfl) ?_
            refine xl_pure rfl rfl rfl (pv_move (v := .int _ _) rfl rfl) ?_
            refine xl_pure rfl rfl rfl (pv_indexAddr_l rfl (sl_eq (hd1 (by omega)).1) rfl (by omega)) ?_
            refine xl_light rfl rfl rfl (lv_load (v := .int _ _) rfl rfl (by exact cellAt_ext ((hd1 (by omega)).2 i (by omega)) hX)) ?_
            refine xl_pure rfl rfl rfl (pv_shr (r := (l.getD i 0) / 2) rfl rfl rfl (by decide) shr1_u8) ?_
            refine xl_pure rfl rfl rfl (pv_conv rfl rfl (fit_i64 (by omega))) ?_
            refine xl_pure rfl rfl rfl (pv_move (v := .int _ _) rfl rfl) ?_
            refine xl_pure rfl rfl rfl (pv_remv (r := (l.getD i 0) / 2 % nx) rfl rfl rfl (by omega) (Int.tmod_eq_emod_of_nonneg (by omega))) ?_
            refine xl_pure rfl rfl rfl (pv_add rfl rfl rfl (fit_i64 (by omega))) ?_
            refine xl_heavy rfl rfl rfl (hv_call (g := 10) rfl rfl (leaveB hb (fair_gs hF) (fair_fm hF) (1 + l.getD i 0 / 2 % nx)) rfl) ?_
            rintro v17_10 H17_10 ⟨hv17_10, hb17_10, hK17_10⟩
            have hX1 := hX.size
            have hX := hX.keep hK17_10 hge
            have hge := gn_ge (H1 := H17_10) hge hX1
            obtain ⟨rn2, wt2, la2, e2, hF2, hd⟩ := fair_lev2 hF (1 + l.getD i 0 / 2 % nx)
            rw [e2] at hb17_10
            have hb := hb17_10
            rcases hd with ⟨d0, d1⟩ | ⟨d0, d1, d2⟩ | ⟨d0, d1, d2, d3⟩
            · skip
              rw [d0] at hv17_10
              subst hv17_10
              refine xl_pure rfl rfl rfl (pv_move (v := .tuple _) rfl rfl) ?_
              refine xl_pure rfl rfl rfl (pv_extract (v := .int _ _) rfl rfl rfl) ?_
              refine xl_pure rfl rfl rfl (pv_extract (v := .int _ _) rfl rfl rfl) ?_
              refine xl_pure rfl rfl rfl (pv_assign (v := .int _ _) rfl rfl) ?_
              refine xl_pure rfl rfl rfl (pv_assign (v := .int _ _) rfl rfl) ?_
              refine xl_nil ?_
              refine xthen_normal ?_
              refine xc_seq ?_
              refine xc_seq ?_
              refine xc_region ?_
              refine xl_pure rfl rfl rfl (pv_move (v := .int _ _) rfl rfl) ?_
              refine xl_dec rfl rfl rfl (pv_eql rfl rfl rfl) (fun h18_1 => ?_) (fun h18_1 => ?_)
              · exact absurd h18_1 (by decide)
              · skip
                refine xl_pure rfl rfl rfl (pv_move (v := .bool _) rfl rfl) ?_
                refine xl_skip rfl rfl rfl ?_
                refine xl_skip rfl rfl rfl ?_
                refine xl_pure rfl rfl rfl (pv_pick_f (v := .bool _) rfl rfl rfl) ?_
                refine xl_nil ?_
                refine xthen_normal ?_
                refine xc_cond_f rfl ?_
                refine xc_skip ?_
                refine xthen_normal ?_
                refine xc_seq ?_
                refine xc_region ?_
                refine xl_pure rfl rfl rfl (pv_move (v := .pointer _) rfl rfl) ?_
                refine xl_heavy rfl rfl rfl (hv_call (g := 11) rfl rfl (linesB hb (fair_gs hF2)) rfl) ?_
                rintro v22_1 H22_1 ⟨a22_1, c22_1, rfl, hD22_1, hE22_1⟩
                have hX := hX.trans hE22_1
                obtain ⟨E, hE1, hE2, hE3⟩ := hD22_1
                obtain ⟨hEl, hEr, hEw⟩ := ln_two hE1
                obtain ⟨g2, o2, hd2⟩ := lnAt hE3
                have hlen2 := hF2.len
                have hrl : (gE E 0).rn.length = rn2.length := by rw [hEr]
                have hwl : (gE E 0).wt.length = wt2.length := by rw [hEw]
                have hrl2 : (gE E (Int.toNat 0)).rn.length = rn2.length := hrl
                have hwl2 : (gE E (Int.toNat 0)).wt.length = wt2.length := hwl
                have hb := hb.ext hE22_1
                refine xl_pure rfl rfl rfl (pv_assign (v := .slice _ _ _) rfl rfl) ?_
                refine xl_nil ?_
                refine xthen_normal ?_
                refine xc_seq ?_
                refine xc_region ?_
                refine xl_pure rfl rfl rfl (pv_move (v := .slice _ _ _) rfl rfl) ?_
                refine xl_pure rfl rfl rfl (pv_len_l rfl rfl) ?_
                refine xl_ndec rfl rfl rfl (pv_neq rfl rfl rfl) (fun h23_2 => ?_) (fun h23_2 => ?_)
                · skip
                  refine xl_pure rfl rfl rfl (pv_move (v := .bool _) rfl rfl) ?_
                  refine xl_pure rfl rfl rfl (pv_move (v := .slice _ _ _) rfl rfl) ?_
                  refine xl_pure rfl rfl rfl (pv_indexAddr_l rfl (sl_eq (hd2 (by omega)).1) rfl (by show (0 : Int) ≤ 0 ∧ (0 : Int) < ((2 : Nat) : Int); decide)) ?_
                  refine xl_pure rfl rfl rfl (pv_fieldAddr rfl rfl) ?_
                  refine xl_light rfl rfl rfl (lv_load (v := .slice _ _ _) rfl rfl (by exact ldL (hd2 (by omega)).2 (by omega) 1 rfl)) ?_
                  refine xl_pure rfl rfl rfl (pv_len_l rfl rfl) ?_
                  refine xl_dec rfl rfl rfl (pv_gtr rfl rfl rfl) (fun h23_9 => ?_) (fun h23_9 => ?_)
                  · skip
                    refine xl_pure rfl rfl rfl (pv_move (v := .bool _) rfl rfl) ?_
                    refine xl_pure rfl rfl rfl (pv_move (v := .slice _ _ _) rfl rfl) ?_
                    refine xl_pure rfl rfl rfl (pv_indexAddr_l rfl (sl_eq (hd2 (by omega)).1) rfl (by show (0 : Int) ≤ 0 ∧ (0 : Int) < ((2 : Nat) : Int); decide)) ?_
                    refine xl_pure rfl rfl rfl (pv_fieldAddr rfl rfl) ?_
                    refine xl_light rfl rfl rfl (lv_load (v := .slice _ _ _) rfl rfl (by exact ldL (hd2 (by omega)).2 (by omega) 0 rfl)) ?_
                    refine xl_pure rfl rfl rfl (pv_len_l rfl rfl) ?_
                    refine xl_pure rfl rfl rfl (pv_move (v := .int _ _) rfl rfl) ?_
                    refine xl_ndec rfl rfl rfl (pv_neq rfl rfl rfl) (fun h23_17 => ?_) (fun h23_17 => ?_)
                    · skip
                      refine xl_pure rfl rfl rfl (pv_pick_t (v := .bool _) rfl rfl rfl) ?_
                      refine xl_pure rfl rfl rfl (pv_pick_f (v := .bool _) rfl rfl rfl) ?_
                      refine xl_pure rfl rfl rfl (pv_move (v := .bool _) rfl rfl) ?_
                      refine xl_pure rfl rfl rfl (pv_move (v := .slice _ _ _) rfl rfl) ?_
                      refine xl_pure rfl rfl rfl (pv_indexAddr_l rfl (sl_eq (hd2 (by omega)).1) rfl (by show (0 : Int) ≤ 0 ∧ (0 : Int) < ((2 : Nat) : Int); decide)) ?_
                      refine xl_pure rfl rfl rfl (pv_fieldAddr rfl rfl) ?_
                      refine xl_light rfl rfl rfl (lv_load (v := .slice _ _ _) rfl rfl (by exact ldL (hd2 (by omega)).2 (by omega) 0 rfl)) ?_
                      refine xl_pure rfl rfl rfl (pv_len_l rfl rfl) ?_
                      refine xl_pure rfl rfl rfl (pv_move (v := .int _ _) rfl rfl) ?_
                      refine xl_dec rfl rfl rfl (pv_gtr rfl rfl rfl) (fun h23_27 => ?_) (fun h23_27 => ?_)
                      · exact absurd h23_27 (by omega)
                      · skip
                        refine xl_pure rfl rfl rfl (pv_pick_f (v := .bool _) rfl rfl rfl) ?_
                        refine xl_nil ?_
                        refine xthen_normal ?_
                        refine xc_cond_f rfl ?_
                        refine xc_skip ?_
                        refine xblock_normal ?_
                        refine xthen_normal ?_
                        refine xc_region ?_
                        refine xl_pure rfl rfl rfl (pv_move (v := .int _ _) rfl rfl) ?_
                        refine xl_pure rfl rfl rfl (pv_add rfl rfl rfl (fit_i64 (by omega))) ?_
                        refine xl_pure rfl rfl rfl (pv_assign (v := .int _ _) rfl rfl) ?_
                        refine xl_nil ?_
                        refine xthen_normal ?_
                        first
                          | exact ⟨(i + 1, _, _, _, _, _, _), ⟨rfl, rfl, rfl, rfl, rfl, rfl, trivial⟩, ⟨by (try simp only); omega, ⟨hnx.1, by have := hnx.2; show nx ≤ 1 + ((i + 1 : Nat) : Int); omega⟩, hF, hb, hge, hX⟩, by (try simp only); omega⟩
                          | exact ⟨(i + 1, _, _, _, _, _, _), ⟨rfl, rfl, rfl, rfl, rfl, rfl, trivial⟩, ⟨by (try simp only); omega, ⟨by have := hnx.1; show (1 : Int) ≤ nx + 1; omega, by have := hnx.2; show nx + 1 ≤ 1 + ((i + 1 : Nat) : Int); omega⟩, e4, hb, hge, hX⟩, by (try simp only); omega⟩
                          | exact ⟨(i + 1, _, _, _, _, _, _), ⟨rfl, rfl, rfl, rfl, rfl, rfl, trivial⟩, ⟨by (try simp only); omega, ⟨by have := hnx.1; show (1 : Int) ≤ nx + 1; omega, by have := hnx.2; show nx + 1 ≤ 1 + ((i + 1 : Nat) : Int); omega⟩, e4, hb, hge, hX⟩, by (try simp only); omega⟩
                          | exact ⟨(i + 1, nx, la2, _, rn2, wt2, _), ⟨rfl, rfl, rfl, rfl, iv (by first | exact d1.symm | exact d2.symm | exact d3.symm), rfl, trivial⟩, ⟨by (try simp only); omega, ⟨hnx.1, by have := hnx.2; show nx ≤ 1 + ((i + 1 : Nat) : Int); omega⟩, hF2, hb, hge, hX⟩, by (try simp only); omega⟩
                    · exact absurd (by have := hF2.full (fun h => by rw [h] at hwl2; simp only [List.length_nil] at hwl2; omega); omega) h23_17
                  · skip
                    refine xl_pure rfl rfl rfl (pv_move (v := .bool _) rfl rfl) ?_
                    refine xl_skip rfl rfl rfl ?_
                    refine xl_skip rfl rfl rfl ?_
                    refine xl_skip rfl rfl rfl ?_
                    refine xl_skip rfl rfl rfl ?_
                    refine xl_skip rfl rfl rfl ?_
                    refine xl_skip rfl rfl rfl ?_
                    refine xl_skip rfl rfl rfl ?_
                    refine xl_pure rfl rfl rfl (pv_pick_f (v := .bool _) rfl rfl rfl) ?_
                    refine xl_pure rfl rfl rfl (pv_pick_f (v := .bool _) rfl rfl rfl) ?_
                    refine xl_pure rfl rfl rfl (pv_move (v := .bool _) rfl rfl) ?_
                    refine xl_pure rfl rfl rfl (pv_move (v := .slice _ _ _) rfl rfl) ?_
                    refine xl_pure rfl rfl rfl (pv_indexAddr_l rfl (sl_eq (hd2 (by omega)).1) rfl (by show (0 : Int) ≤ 0 ∧ (0 : Int) < ((2 : Nat) : Int); decide)) ?_
                    refine xl_pure rfl rfl rfl (pv_fieldAddr rfl rfl) ?_
                    refine xl_light rfl rfl rfl (lv_load (v := .slice _ _ _) rfl rfl (by exact ldL (hd2 (by omega)).2 (by omega) 0 rfl)) ?_
                    refine xl_pure rfl rfl rfl (pv_len_l rfl rfl) ?_
                    refine xl_pure rfl rfl rfl (pv_move (v := .int _ _) rfl rfl) ?_
                    refine xl_dec rfl rfl rfl (pv_gtr rfl rfl rfl) (fun h23_27 => ?_) (fun h23_27 => ?_)
                    · exact absurd h23_27 (by omega)
                    · skip
                      refine xl_pure rfl rfl rfl (pv_pick_f (v := .bool _) rfl rfl rfl) ?_
                      refine xl_nil ?_
                      refine xthen_normal ?_
                      refine xc_cond_f rfl ?_
                      refine xc_skip ?_
                      refine xblock_normal ?_
                      refine xthen_normal ?_
                      refine xc_region ?_
                      refine xl_pure rfl rfl rfl (pv_move (v := .int _ _) rfl rfl) ?_
                      refine xl_pure rfl rfl rfl (pv_add rfl rfl rfl (fit_i64 (by omega))) ?_
                      refine xl_pure rfl rfl rfl (pv_assign (v := .int _ _) rfl rfl) ?_
                      refine xl_nil ?_
                      refine xthen_normal ?_
                      first
                        | exact ⟨(i + 1, _, _, _, _, _, _), ⟨rfl, rfl, rfl, rfl, rfl, rfl, trivial⟩, ⟨by (try simp only); omega, ⟨hnx.1, by have := hnx.2; show nx ≤ 1 + ((i + 1 : Nat) : Int); omega⟩, hF, hb, hge, hX⟩, by (try simp only); omega⟩
                        | exact ⟨(i + 1, _, _, _, _, _, _), ⟨rfl, rfl, rfl, rfl, rfl, rfl, trivial⟩, ⟨by (try simp only); omega, ⟨by have := hnx.1; show (1 : Int) ≤ nx + 1; omega, by have := hnx.2; show nx + 1 ≤ 1 + ((i + 1 : Nat) : Int); omega⟩, e4, hb, hge, hX⟩, by (try simp only); omega⟩
                        | exact ⟨(i + 1, _, _, _, _, _, _), ⟨rfl, rfl, rfl, rfl, rfl, rfl, trivial⟩, ⟨by (try simp only); omega, ⟨by have := hnx.1; show (1 : Int) ≤ nx + 1; omega, by have := hnx.2; show nx + 1 ≤ 1 + ((i + 1 : Nat) : Int); omega⟩, e4, hb, hge, hX⟩, by (try simp only); omega⟩
                        | exact ⟨(i + 1, nx, la2, _, rn2, wt2, _), ⟨rfl, rfl, rfl, rfl, iv (by first | exact d1.symm | exact d2.symm | exact d3.symm), rfl, trivial⟩, ⟨by (try simp only); omega, ⟨hnx.1, by have := hnx.2; show nx ≤ 1 + ((i + 1 : Nat) : Int); omega⟩, hF2, hb, hge, hX⟩, by (try simp only); omega⟩
                · exact absurd rfl h23_2
            · skip
              rw [d1, d0] at hv17_10
              subst hv17_10
              refine xl_pure rfl rfl rfl (pv_move (v := .tuple _) rfl rfl) ?_
              refine xl_pure rfl rfl rfl (pv_extract (v := .int _ _) rfl rfl rfl) ?_
              refine xl_pure rfl rfl rfl (pv_extract (v := .int _ _) rfl rfl rfl) ?_
              refine xl_pure rfl rfl rfl (pv_assign (v := .int _ _) rfl rfl) ?_
              refine xl_pure rfl rfl rfl (pv_assign (v := .int _ _) rfl rfl) ?_
              refine xl_nil ?_
              refine xthen_normal ?_
              refine xc_seq ?_
              refine xc_seq ?_
              refine xc_region ?_
              refine xl_pure rfl rfl rfl (pv_move (v := .int _ _) rfl rfl) ?_
              refine xl_dec rfl rfl rfl (pv_eql rfl rfl rfl) (fun h18_1 => ?_) (fun h18_1 => ?_)
              · skip
                refine xl_pure rfl rfl rfl (pv_move (v := .bool _) rfl rfl) ?_
                refine xl_pure rfl rfl rfl (pv_move (v := .int _ _) rfl rfl) ?_
                refine xl_dec rfl rfl rfl (pv_gtr rfl rfl rfl) (fun h18_4 => ?_) (fun h18_4 => ?_)
                · exact absurd h18_4 (by decide)
                · skip
                  refine xl_pure rfl rfl rfl (pv_pick_t (v := .bool _) rfl rfl rfl) ?_
                  refine xl_nil ?_
                  refine xthen_normal ?_
                  refine xc_cond_f rfl ?_
                  refine xc_skip ?_
                  refine xthen_normal ?_
                  refine xc_seq ?_
                  refine xc_region ?_
                  refine xl_pure rfl rfl rfl (pv_move (v := .pointer _) rfl rfl) ?_
                  refine xl_heavy rfl rfl rfl (hv_call (g := 11) rfl rfl (linesB hb (fair_gs hF2)) rfl) ?_
                  rintro v22_1 H22_1 ⟨a22_1, c22_1, rfl, hD22_1, hE22_1⟩
                  have hX := hX.trans hE22_1
                  obtain ⟨E, hE1, hE2, hE3⟩ := hD22_1
                  obtain ⟨hEl, hEr, hEw⟩ := ln_two hE1
                  obtain ⟨g2, o2, hd2⟩ := lnAt hE3
                  have hlen2 := hF2.len
                  have hrl : (gE E 0).rn.length = rn2.length := by rw [hEr]
                  have hwl : (gE E 0).wt.length = wt2.length := by rw [hEw]
                  have hrl2 : (gE E (Int.toNat 0)).rn.length = rn2.length := hrl
                  have hwl2 : (gE E (Int.toNat 0)).wt.length = wt2.length := hwl
                  have hb := hb.ext hE22_1
                  refine xl_pure rfl rfl rfl (pv_assign (v := .slice _ _ _) rfl rfl) ?_
                  refine xl_nil ?_
                  refine xthen_normal ?_
                  refine xc_seq ?_
                  refine xc_region ?_
                  refine xl_pure rfl rfl rfl (pv_move (v := .slice _ _ _) rfl rfl) ?_
                  refine xl_pure rfl rfl rfl (pv_len_l rfl rfl) ?_
                  refine xl_ndec rfl rfl rfl (pv_neq rfl rfl rfl) (fun h23_2 => ?_) (fun h23_2 => ?_)
                  · skip
                    refine xl_pure rfl rfl rfl (pv_move (v := .bool _) rfl rfl) ?_
                    refine xl_pure rfl rfl rfl (pv_move (v := .slice _ _ _) rfl rfl) ?_
                    refine xl_pure rfl rfl rfl (pv_indexAddr_l rfl (sl_eq (hd2 (by omega)).1) rfl (by show (0 : Int) ≤ 0 ∧ (0 : Int) < ((2 : Nat) : Int); decide)) ?_
                    refine xl_pure rfl rfl rfl (pv_fieldAddr rfl rfl) ?_
                    refine xl_light rfl rfl rfl (lv_load (v := .slice _ _ _) rfl rfl (by exact ldL (hd2 (by omega)).2 (by omega) 1 rfl)) ?_
                    refine xl_pure rfl rfl rfl (pv_len_l rfl rfl) ?_
                    refine xl_dec rfl rfl rfl (pv_gtr rfl rfl rfl) (fun h23_9 => ?_) (fun h23_9 => ?_)
                    · skip
                      refine xl_pure rfl rfl rfl (pv_move (v := .bool _) rfl rfl) ?_
                      refine xl_pure rfl rfl rfl (pv_move (v := .slice _ _ _) rfl rfl) ?_
                      refine xl_pure rfl rfl rfl (pv_indexAddr_l rfl (sl_eq (hd2 (by omega)).1) rfl (by show (0 : Int) ≤ 0 ∧ (0 : Int) < ((2 : Nat) : Int); decide)) ?_
                      refine xl_pure rfl rfl rfl (pv_fieldAddr rfl rfl) ?_
                      refine xl_light rfl rfl rfl (lv_load (v := .slice _ _ _) rfl rfl (by exact ldL (hd2 (by omega)).2 (by omega) 0 rfl)) ?_
                      refine xl_pure rfl rfl rfl (pv_len_l rfl rfl) ?_
                      refine xl_pure rfl rfl rfl (pv_move (v := .int _ _) rfl rfl) ?_
                      refine xl_ndec rfl rfl rfl (pv_neq rfl rfl rfl) (fun h23_17 => ?_) (fun h23_17 => ?_)
                      · skip
                        refine xl_pure rfl rfl rfl (pv_pick_t (v := .bool _) rfl rfl rfl) ?_
                        refine xl_pure rfl rfl rfl (pv_pick_f (v := .bool _) rfl rfl rfl) ?_
                        refine xl_pure rfl rfl rfl (pv_move (v := .bool _) rfl rfl) ?_
                        refine xl_pure rfl rfl rfl (pv_move (v := .slice _ _ _) rfl rfl) ?_
                        refine xl_pure rfl rfl rfl (pv_indexAddr_l rfl (sl_eq (hd2 (by omega)).1) rfl (by show (0 : Int) ≤ 0 ∧ (0 : Int) < ((2 : Nat) : Int); decide)) ?_
                        refine xl_pure rfl rfl rfl (pv_fieldAddr rfl rfl) ?_
                        refine xl_light rfl rfl rfl (lv_load (v := .slice _ _ _) rfl rfl (by exact ldL (hd2 (by omega)).2 (by omega) 0 rfl)) ?_
                        refine xl_pure rfl rfl rfl (pv_len_l rfl rfl) ?_
                        refine xl_pure rfl rfl rfl (pv_move (v := .int _ _) rfl rfl) ?_
                        refine xl_dec rfl rfl rfl (pv_gtr rfl rfl rfl) (fun h23_27 => ?_) (fun h23_27 => ?_)
                        · exact absurd h23_27 (by omega)
                        · skip
                          refine xl_pure rfl rfl rfl (pv_pick_f (v := .bool _) rfl rfl rfl) ?_
                          refine xl_nil ?_
                          refine xthen_normal ?_
                          refine xc_cond_f rfl ?_
                          refine xc_skip ?_
                          refine xblock_normal ?_
                          refine xthen_normal ?_
                          refine xc_region ?_
                          refine xl_pure rfl rfl rfl (pv_move (v := .int _ _) rfl rfl) ?_
                          refine xl_pure rfl rfl rfl (pv_add rfl rfl rfl (fit_i64 (by omega))) ?_
                          refine xl_pure rfl rfl rfl (pv_assign (v := .int _ _) rfl rfl) ?_
                          refine xl_nil ?_
                          refine xthen_normal ?_
                          first
                            | exact ⟨(i + 1, _, _, _, _, _, _), ⟨rfl, rfl, rfl, rfl, rfl, rfl, trivial⟩, ⟨by (try simp only); omega, ⟨hnx.1, by have := hnx.2; show nx ≤ 1 + ((i + 1 : Nat) : Int); omega⟩, hF, hb, hge, hX⟩, by (try simp only); omega⟩
                            | exact ⟨(i + 1, _, _, _, _, _, _), ⟨rfl, rfl, rfl, rfl, rfl, rfl, trivial⟩, ⟨by (try simp only); omega, ⟨by have := hnx.1; show (1 : Int) ≤ nx + 1; omega, by have := hnx.2; show nx + 1 ≤ 1 + ((i + 1 : Nat) : Int); omega⟩, e4, hb, hge, hX⟩, by (try simp only); omega⟩
                            | exact ⟨(i + 1, _, _, _, _, _, _), ⟨rfl, rfl, rfl, rfl, rfl, rfl, trivial⟩, ⟨by (try simp only); omega, ⟨by have := hnx.1; show (1 : Int) ≤ nx + 1; omega, by have := hnx.2; show nx + 1 ≤ 1 + ((i + 1 : Nat) : Int); omega⟩, e4, hb, hge, hX⟩, by (try simp only); omega⟩
                            | exact ⟨(i + 1, nx, la2, _, rn2, wt2, _), ⟨rfl, rfl, rfl, rfl, iv (by first | exact d1.symm | exact d2.symm | exact d3.symm), rfl, trivial⟩, ⟨by (try simp only); omega, ⟨hnx.1, by have := hnx.2; show nx ≤ 1 + ((i + 1 : Nat) : Int); omega⟩, hF2, hb, hge, hX⟩, by (try simp only); omega⟩
                      · exact absurd (by have := hF2.full (fun h => by rw [h] at hwl2; simp only [List.length_nil] at hwl2; omega); omega) h23_17
                    · skip
                      refine xl_pure rfl rfl rfl (pv_move (v := .bool _) rfl rfl) ?_
                      refine xl_skip rfl rfl rfl ?_
                      refine xl_skip rfl rfl rfl ?_
                      refine xl_skip rfl rfl rfl ?_
                      refine xl_skip rfl rfl rfl ?_
                      refine xl_skip rfl rfl rfl ?_
                      refine xl_skip rfl rfl rfl ?_
                      refine xl_skip rfl rfl rfl ?_
                      refine xl_pure rfl rfl rfl (pv_pick_f (v := .bool _) rfl rfl rfl) ?_
                      refine xl_pure rfl rfl rfl (pv_pick_f (v := .bool _) rfl rfl rfl) ?_
                      refine xl_pure rfl rfl rfl (pv_move (v := .bool _) rfl rfl) ?_
                      refine xl_pure rfl rfl rfl (pv_move (v := .slice _ _ _) rfl rfl) ?_
                      refine xl_pure rfl rfl rfl (pv_indexAddr_l rfl (sl_eq (hd2 (by omega)).1) rfl (by show (0 : Int) ≤ 0 ∧ (0 : Int) < ((2 : Nat) : Int); decide)) ?_
                      refine xl_pure rfl rfl rfl (pv_fieldAddr rfl rfl) ?_
                      refine xl_light rfl rfl rfl (lv_load (v := .slice _ _ _) rfl rfl (by exact ldL (hd2 (by omega)).2 (by omega) 0 rfl)) ?_
                      refine xl_pure rfl rfl rfl (pv_len_l rfl rfl) ?_
                      refine xl_pure rfl rfl rfl (pv_move (v := .int _ _) rfl rfl) ?_
                      refine xl_dec rfl rfl rfl (pv_gtr rfl rfl rfl) (fun h23_27 => ?_) (fun h23_27 => ?_)
                      · exact absurd h23_27 (by omega)
                      · skip
                        refine xl_pure rfl rfl rfl (pv_pick_f (v := .bool _) rfl rfl rfl) ?_
                        refine xl_nil ?_
                        refine xthen_normal ?_
                        refine xc_cond_f rfl ?_
                        refine xc_skip ?_
                        refine xblock_normal ?_
                        refine xthen_normal ?_
                        refine xc_region ?_
                        refine xl_pure rfl rfl rfl (pv_move (v := .int _ _) rfl rfl) ?_
                        refine xl_pure rfl rfl rfl (pv_add rfl rfl rfl (fit_i64 (by omega))) ?_
                        refine xl_pure rfl rfl rfl (pv_assign (v := .int _ _) rfl rfl) ?_
                        refine xl_nil ?_
                        refine xthen_normal ?_
                        first
                          | exact ⟨(i + 1, _, _, _, _, _, _), ⟨rfl, rfl, rfl, rfl, rfl, rfl, trivial⟩, ⟨by (try simp only); omega, ⟨hnx.1, by have := hnx.2; show nx ≤ 1 + ((i + 1 : Nat) : Int); omega⟩, hF, hb, hge, hX⟩, by (try simp only); omega⟩
                          | exact ⟨(i + 1, _, _, _, _, _, _), ⟨rfl, rfl, rfl, rfl, rfl, rfl, trivial⟩, ⟨by (try simp only); omega, ⟨by have := hnx.1; show (1 : Int) ≤ nx + 1; omega, by have := hnx.2; show nx + 1 ≤ 1 + ((i + 1 : Nat) : Int); omega⟩, e4, hb, hge, hX⟩, by (try simp only); omega⟩
                          | exact ⟨(i + 1, _, _, _, _, _, _), ⟨rfl, rfl, rfl, rfl, rfl, rfl, trivial⟩, ⟨by (try simp only); omega, ⟨by have := hnx.1; show (1 : Int) ≤ nx + 1; omega, by have := hnx.2; show nx + 1 ≤ 1 + ((i + 1 : Nat) : Int); omega⟩, e4, hb, hge, hX⟩, by (try simp only); omega⟩
                          | exact ⟨(i + 1, nx, la2, _, rn2, wt2, _), ⟨rfl, rfl, rfl, rfl, iv (by first | exact d1.symm | exact d2.symm | exact d3.symm), rfl, trivial⟩, ⟨by (try simp only); omega, ⟨hnx.1, by have := hnx.2; show nx ≤ 1 + ((i + 1 : Nat) : Int); omega⟩, hF2, hb, hge, hX⟩, by (try simp only); omega⟩
                  · exact absurd rfl h23_2
              · exact absurd (by decide) h18_1
            · skip
              rw [d0] at hv17_10
              subst hv17_10
              refine xl_pure rfl rfl rfl (pv_move (v := .tuple _) rfl rfl) ?_
              refine xl_pure rfl rfl rfl (pv_extract (v := .int _ _) rfl rfl rfl) ?_
              refine xl_pure rfl rfl rfl (pv_extract (v := .int _ _) rfl rfl rfl) ?_
              refine xl_pure rfl rfl rfl (pv_assign (v := .int _ _) rfl rfl) ?_
              refine xl_pure rfl rfl rfl (pv_assign (v := .int _ _) rfl rfl) ?_
              refine xl_nil ?_
              refine xthen_normal ?_
              refine xc_seq ?_
              refine xc_seq ?_
              refine xc_region ?_
              refine xl_pure rfl rfl rfl (pv_move (v := .int _ _) rfl rfl) ?_
              refine xl_dec rfl rfl rfl (pv_eql rfl rfl rfl) (fun h18_1 => ?_) (fun h18_1 => ?_)
              · skip
                refine xl_pure rfl rfl rfl (pv_move (v := .bool _) rfl rfl) ?_
                refine xl_pure rfl rfl rfl (pv_move (v := .int _ _) rfl rfl) ?_
                refine xl_dec rfl rfl rfl (pv_gtr rfl rfl rfl) (fun h18_4 => ?_) (fun h18_4 => ?_)
                · skip
                  refine xl_pure rfl rfl rfl (pv_pick_t (v := .bool _) rfl rfl rfl) ?_
                  refine xl_nil ?_
                  refine xthen_normal ?_
                  refine xc_cond_t rfl ?_
                  refine xc_seq ?_
                  refine xc_seq ?_
                  refine xc_region ?_
                  refine xl_pure rfl rfl rfl (pv_move (v := .int _ _) rfl rfl) ?_
                  refine xl_pure rfl rfl rfl (pv_move (v := .int _ _) rfl rfl) ?_
                  refine xl_dec rfl rfl rfl (pv_leq rfl rfl rfl) (fun h19_2 => ?_) (fun h19_2 => ?_)
                  · exact absurd h19_2 (by omega)
                  · skip
                    refine xl_nil ?_
                    refine xthen_normal ?_
                    refine xc_cond_f rfl ?_
                    refine xc_skip ?_
                    refine xthen_normal ?_
                    refine xc_region ?_
                    refine xl_pure rfl rfl rfl (pv_move (v := .int _ _) rfl rfl) ?_
                    refine xl_pure rfl rfl rfl (pv_assign (v := .int _ _) rfl rfl) ?_
                    refine xl_nil ?_
                    refine xthen_normal ?_
                    refine xc_seq ?_
                    refine xc_region ?_
                    refine xl_pure rfl rfl rfl (pv_move (v := .pointer _) rfl rfl) ?_
                    refine xl_heavy rfl rfl rfl (hv_call (g := 11) rfl rfl (linesB hb (fair_gs hF2)) rfl) ?_
                    rintro v22_1 H22_1 ⟨a22_1, c22_1, rfl, hD22_1, hE22_1⟩
                    have hX := hX.trans hE22_1
                    obtain ⟨E, hE1, hE2, hE3⟩ := hD22_1
                    obtain ⟨hEl, hEr, hEw⟩ := ln_two hE1
                    obtain ⟨g2, o2, hd2⟩ := lnAt hE3
                    have hlen2 := hF2.len
                    have hrl : (gE E 0).rn.length = rn2.length := by rw [hEr]
                    have hwl : (gE E 0).wt.length = wt2.length := by rw [hEw]
                    have hrl2 : (gE E (Int.toNat 0)).rn.length = rn2.length := hrl
                    have hwl2 : (gE E (Int.toNat 0)).wt.length = wt2.length := hwl
                    have hb := hb.ext hE22_1
                    refine xl_pure rfl rfl rfl (pv_assign (v := .slice _ _ _) rfl rfl) ?_
                    refine xl_nil ?_
                    refine xthen_normal ?_
                    refine xc_seq ?_
                    refine xc_region ?_
                    refine xl_pure rfl rfl rfl (pv_move (v := .slice _ _ _) rfl rfl) ?_
                    refine xl_pure rfl rfl rfl (pv_len_l rfl rfl) ?_
                    refine xl_ndec rfl rfl rfl (pv_neq rfl rfl rfl) (fun h23_2 => ?_) (fun h23_2 => ?_)
                    · skip
                      refine xl_pure rfl rfl rfl (pv_move (v := .bool _) rfl rfl) ?_
                      refine xl_pure rfl rfl rfl (pv_move (v := .slice _ _ _) rfl rfl) ?_
                      refine xl_pure rfl rfl rfl (pv_indexAddr_l rfl (sl_eq (hd2 (by omega)).1) rfl (by show (0 : Int) ≤ 0 ∧ (0 : Int) < ((2 : Nat) : Int); decide)) ?_
                      refine xl_pure rfl rfl rfl (pv_fieldAddr rfl rfl) ?_
                      refine xl_light rfl rfl rfl (lv_load (v := .slice _ _ _) rfl rfl (by exact ldL (hd2 (by omega)).2 (by omega) 1 rfl)) ?_
                      refine xl_pure rfl rfl rfl (pv_len_l rfl rfl) ?_
                      refine xl_dec rfl rfl rfl (pv_gtr rfl rfl rfl) (fun h23_9 => ?_) (fun h23_9 => ?_)
                      · skip
                        refine xl_pure rfl rfl rfl (pv_move (v := .bool _) rfl rfl) ?_
                        refine xl_pure rfl rfl rfl (pv_move (v := .slice _ _ _) rfl rfl) ?_
                        refine xl_pure rfl rfl rfl (pv_indexAddr_l rfl (sl_eq (hd2 (by omega)).1) rfl (by show (0 : Int) ≤ 0 ∧ (0 : Int) < ((2 : Nat) : Int); decide)) ?_
                        refine xl_pure rfl rfl rfl (pv_fieldAddr rfl rfl) ?_
                        refine xl_light rfl rfl rfl (lv_load (v := .slice _ _ _) rfl rfl (by exact ldL (hd2 (by omega)).2 (by omega) 0 rfl)) ?_
                        refine xl_pure rfl rfl rfl (pv_len_l rfl rfl) ?_
                        refine xl_pure rfl rfl rfl (pv_move (v := .int _ _) rfl rfl) ?_
                        refine xl_ndec rfl rfl rfl (pv_neq rfl rfl rfl) (fun h23_17 => ?_) (fun h23_17 => ?_)
                        · skip
                          refine xl_pure rfl rfl rfl (pv_pick_t (v := .bool _) rfl rfl rfl) ?_
                          refine xl_pure rfl rfl rfl (pv_pick_f (v := .bool _) rfl rfl rfl) ?_
                          refine xl_pure rfl rfl rfl (pv_move (v := .bool _) rfl rfl) ?_
                          refine xl_pure rfl rfl rfl (pv_move (v := .slice _ _ _) rfl rfl) ?_
                          refine xl_pure rfl rfl rfl (pv_indexAddr_l rfl (sl_eq (hd2 (by omega)).1) rfl (by show (0 : Int) ≤ 0 ∧ (0 : Int) < ((2 : Nat) : Int); decide)) ?_
                          refine xl_pure rfl rfl rfl (pv_fieldAddr rfl rfl) ?_
                          refine xl_light rfl rfl rfl (lv_load (v := .slice _ _ _) rfl rfl (by exact ldL (hd2 (by omega)).2 (by omega) 0 rfl)) ?_
                          refine xl_pure rfl rfl rfl (pv_len_l rfl rfl) ?_
                          refine xl_pure rfl rfl rfl (pv_move (v := .int _ _) rfl rfl) ?_
                          refine xl_dec rfl rfl rfl (pv_gtr rfl rfl rfl) (fun h23_27 => ?_) (fun h23_27 => ?_)
                          · exact absurd h23_27 (by omega)
                          · skip
                            refine xl_pure rfl rfl rfl (pv_pick_f (v := .bool _) rfl rfl rfl) ?_
                            refine xl_nil ?_
                            refine xthen_normal ?_
                            refine xc_cond_f rfl ?_
                            refine xc_skip ?_
                            refine xblock_normal ?_
                            refine xthen_normal ?_
                            refine xc_region ?_
                            refine xl_pure rfl rfl rfl (pv_move (v := .int _ _) rfl rfl) ?_
                            refine xl_pure rfl rfl rfl (pv_add rfl rfl rfl (fit_i64 (by omega))) ?_
                            refine xl_pure rfl rfl rfl (pv_assign (v := .int _ _) rfl rfl) ?_
                            refine xl_nil ?_
                            refine xthen_normal ?_
                            first
                              | exact ⟨(i + 1, _, _, _, _, _, _), ⟨rfl, rfl, rfl, rfl, rfl, rfl, trivial⟩, ⟨by (try simp only); omega, ⟨hnx.1, by have := hnx.2; show nx ≤ 1 + ((i + 1 : Nat) : Int); omega⟩, hF, hb, hge, hX⟩, by (try simp only); omega⟩
                              | exact ⟨(i + 1, _, _, _, _, _, _), ⟨rfl, rfl, rfl, rfl, rfl, rfl, trivial⟩, ⟨by (try simp only); omega, ⟨by have := hnx.1; show (1 : Int) ≤ nx + 1; omega, by have := hnx.2; show nx + 1 ≤ 1 + ((i + 1 : Nat) : Int); omega⟩, e4, hb, hge, hX⟩, by (try simp only); omega⟩
                              | exact ⟨(i + 1, _, _, _, _, _, _), ⟨rfl, rfl, rfl, rfl, rfl, rfl, trivial⟩, ⟨by (try simp only); omega, ⟨by have := hnx.1; show (1 : Int) ≤ nx + 1; omega, by have := hnx.2; show nx + 1 ≤ 1 + ((i + 1 : Nat) : Int); omega⟩, e4, hb, hge, hX⟩, by (try simp only); omega⟩
                              | exact ⟨(i + 1, nx, la2, _, rn2, wt2, _), ⟨rfl, rfl, rfl, rfl, iv (by first | exact d1.symm | exact d2.symm | exact d3.symm), rfl, trivial⟩, ⟨by (try simp only); omega, ⟨hnx.1, by have := hnx.2; show nx ≤ 1 + ((i + 1 : Nat) : Int); omega⟩, hF2, hb, hge, hX⟩, by (try simp only); omega⟩
                        · exact absurd (by have := hF2.full (fun h => by rw [h] at hwl2; simp only [List.length_nil] at hwl2; omega); omega) h23_17
                      · skip
                        refine xl_pure rfl rfl rfl (pv_move (v := .bool _) rfl rfl) ?_
                        refine xl_skip rfl rfl rfl ?_
                        refine xl_skip rfl rfl rfl ?_
                        refine xl_skip rfl rfl rfl ?_
                        refine xl_skip rfl rfl rfl ?_
                        refine xl_skip rfl rfl rfl ?_
                        refine xl_skip rfl rfl rfl ?_
                        refine xl_skip rfl rfl rfl ?_
                        refine xl_pure rfl rfl rfl (pv_pick_f (v := .bool _) rfl rfl rfl) ?_
                        refine xl_pure rfl rfl rfl (pv_pick_f (v := .bool _) rfl rfl rfl) ?_
                        refine xl_pure rfl rfl rfl (pv_move (v := .bool _) rfl rfl) ?_
                        refine xl_pure rfl rfl rfl (pv_move (v := .slice _ _ _) rfl rfl) ?_
                        refine xl_pure rfl rfl rfl (pv_indexAddr_l rfl (sl_eq (hd2 (by omega)).1) rfl (by show (0 : Int) ≤ 0 ∧ (0 : Int) < ((2 : Nat) : Int); decide)) ?_
                        refine xl_pure rfl rfl rfl (pv_fieldAddr rfl rfl) ?_
                        refine xl_light rfl rfl rfl (lv_load (v := .slice _ _ _) rfl rfl (by exact ldL (hd2 (by omega)).2 (by omega) 0 rfl)) ?_
                        refine xl_pure rfl rfl rfl (pv_len_l rfl rfl) ?_
                        refine xl_pure rfl rfl rfl (pv_move (v := .int _ _) rfl rfl) ?_
                        refine xl_dec rfl rfl rfl (pv_gtr rfl rfl rfl) (fun h23_27 => ?_) (fun h23_27 => ?_)
                        · exact absurd h23_27 (by omega)
                        · skip
                          refine xl_pure rfl rfl rfl (pv_pick_f (v := .bool _) rfl rfl rfl) ?_
                          refine xl_nil ?_
                          refine xthen_normal ?_
                          refine xc_cond_f rfl ?_
                          refine xc_skip ?_
                          refine xblock_normal ?_
                          refine xthen_normal ?_
                          refine xc_region ?_
                          refine xl_pure rfl rfl rfl (pv_move (v := .int _ _) rfl rfl) ?_
                          refine xl_pure rfl rfl rfl (pv_add rfl rfl rfl (fit_i64 (by omega))) ?_
                          refine xl_pure rfl rfl rfl (pv_assign (v := .int _ _) rfl rfl) ?_
                          refine xl_nil ?_
                          refine xthen_normal ?_
                          first
                            | exact ⟨(i + 1, _, _, _, _, _, _), ⟨rfl, rfl, rfl, rfl, rfl, rfl, trivial⟩, ⟨by (try simp only); omega, ⟨hnx.1, by have := hnx.2; show nx ≤ 1 + ((i + 1 : Nat) : Int); omega⟩, hF, hb, hge, hX⟩, by (try simp only); omega⟩
                            | exact ⟨(i + 1, _, _, _, _, _, _), ⟨rfl, rfl, rfl, rfl, rfl, rfl, trivial⟩, ⟨by (try simp only); omega, ⟨by have := hnx.1; show (1 : Int) ≤ nx + 1; omega, by have := hnx.2; show nx + 1 ≤ 1 + ((i + 1 : Nat) : Int); omega⟩, e4, hb, hge, hX⟩, by (try simp only); omega⟩
                            | exact ⟨(i + 1, _, _, _, _, _, _), ⟨rfl, rfl, rfl, rfl, rfl, rfl, trivial⟩, ⟨by (try simp only); omega, ⟨by have := hnx.1; show (1 : Int) ≤ nx + 1; omega, by have := hnx.2; show nx + 1 ≤ 1 + ((i + 1 : Nat) : Int); omega⟩, e4, hb, hge, hX⟩, by (try simp only); omega⟩
                            | exact ⟨(i + 1, nx, la2, _, rn2, wt2, _), ⟨rfl, rfl, rfl, rfl, iv (by first | exact d1.symm | exact d2.symm | exact d3.symm), rfl, trivial⟩, ⟨by (try simp only); omega, ⟨hnx.1, by have := hnx.2; show nx ≤ 1 + ((i + 1 : Nat) : Int); omega⟩, hF2, hb, hge, hX⟩, by (try simp only); omega⟩
                    · exact absurd rfl h23_2
                · exact absurd d1 h18_4
              · exact absurd (by decide) h18_1
        · skip
          refine xl_nil ?_
          refine xthen_normal ?_
          refine xc_cond_f rfl ?_
          refine xc_exit ?_
          refine xthen_exit ?_
          refine xthen_exit ?_
          refine xblock_same ?_
          refine xthen_normal ?_
          refine xc_seq ?_
          refine xc_region ?_
          refine xl_heavy rfl rfl rfl (hv_call (g := 8) rfl rfl (awake) rfl) ?_
          rintro v25_0 H25_0 ⟨rfl, hE25_0⟩
          have hX := hX.trans hE25_0
          refine xl_pure rfl rfl rfl (pv_assign (v := .bool _) rfl rfl) ?_
          refine xl_nil ?_
          refine xthen_normal ?_
          refine xc_ret ?_
          refine fin_ret (res1 (v := .bool _) rfl rfl) ?_
          exact ⟨rfl, hX⟩
  · exact absurd (by decide) h3_1
end Go.XG
