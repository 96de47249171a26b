/-
  Walks of the seat's functions over the logic XG: each function, what it computes. Printed by a program out of wip/walks.py.
-/
import Derived.Test.YtdpgbnflielagaaI
import Derived.Test.YtdpgbnflielagaaN
import Derived.Test.YtdpgbnflielagaaWa
import Derived.Test.YtdpgbnflielagaaWb
import Derived.Test.YtdpgbnflielagaaWc
import Derived.Test.YtdpgbnflielagaaWd
import Derived.Test.YtdpgbnflielagaaWe
import Derived.Test.YtdpgbnflielagaaWf
import Derived.Test.YtdpgbnflielagaaWg
import Derived.Test.YtdpgbnflielagaaWh
import Derived.Test.YtdpgbnflielagaaWi
import Derived.Test.YtdpgbnflielagaaWj
import Derived.Test.YtdpgbnflielagaaWk
import Derived.Test.YtdpgbnflielagaaWl
namespace Go.XG
open Go.Proofs
set_option maxRecDepth 4000
set_option maxHeartbeats 4000000
instance (n : Int) : Decidable (okS n) := by unfold okS; infer_instance
instance (l : List (List Int)) : Decidable (okN l) := by unfold okN; infer_instance
theorem gn_ge {G : Nat → Prop} {H H1 : Heap} {n : Nat} (h : ∀ j, G j → n ≤ j) (hs : n ≤ H.size) : ∀ j, Gn G H H1 j → n ≤ j := fun j hj => hj.elim (h j) (fun h2 => Nat.le_trans hs h2.1)
def aS0 : List Sd := [⟨1, [], []⟩, ⟨0, [], []⟩]
def aF0 : Fn := fun _ => none
def aS1 : List Sd := askS aS0 aF0 1 0 5
def aF1 : Fn := askF aS0 aF0 1 0 5
def aS2 : List Sd := askS aS1 aF1 1 0 4
def aF2 : Fn := askF aS1 aF1 1 0 4
def aS3 : List Sd := askS aS2 aF2 1 1 6
def aF3 : Fn := askF aS2 aF2 1 1 6
def aS4 : List Sd := levS aS3 aF3 5
def aF4 : Fn := levF aF3 5
theorem aLn : aS4.map lnS = [([4], []), ([], [])] := rfl

theorem awake {O : Outer} {H : Heap}  :
    FnC Try.prog 8 #[] O H (fun v H' => v = .bool true ∧ Ext H H') := by
  refine fn_enter (A := []) Try.func8 rfl rfl ?_
  have hX := Ext.refl H
  refine xc_seq ?_
  refine xc_region ?_
  refine xl_pure rfl rfl rfl (pv_assign (v := .bool _) rfl rfl) ?_
  refine xl_nil ?_
  refine xthen_normal ?_
  refine xc_seq ?_
  refine xc_region ?_
  refine xl_pure rfl rfl rfl (pv_build_s (cs := [.int _ _, .int _ _, .int _ _, .int _ _]) rfl rfl rfl) ?_
  refine xl_heavy rfl rfl rfl (hv_buildSlice (cs := [.int _ _, .int _ _, .int _ _, .int _ _]) rfl rfl rfl rfl rfl) ?_
  rintro v1_1 H1_1 ⟨b1_1, rfl, hN1_1⟩
  have gb1_1 := hX.fresh hN1_1
  have hX := hX.trans hN1_1.ext
  have m1_1 := hN1_1.blk
  refine xl_heavy rfl rfl rfl (hv_call (g := 7) rfl rfl (new_ (l := [[0, 1, 0, 0]]) (blk_rowsT (k := 4) (ex := []) m1_1 (fun r hr => by simp at hr; subst hr; rfl)).rows (by decide)) rfl) ?_
  rintro v1_2 H1_2 ⟨hv1_2, hE1_2⟩
  have m1_1 := m1_1.ext hE1_2
  have hX := hX.trans hE1_2
  obtain ⟨bp, G, rfl, hb, hge⟩ : ∃ bp G, v1_2 = .tuple #[.pointer (some ⟨bp, 0, none⟩), .int .i64 0] ∧ BB H1_2 bp G aS0 aF0 ∧ ∀ j, G j → H.size ≤ j := by rcases hv1_2 with ⟨_, bp, h1, h2⟩ | ⟨h, _⟩; exact ⟨bp, _, h1, h2, fun j hj => Nat.le_trans hN1_1.ext.size hj.1⟩; exact absurd (by decide) h
  refine xl_pure rfl rfl rfl (pv_move (v := .tuple _) rfl rfl) ?_
  refine xl_pure rfl rfl rfl (pv_extract (v := .pointer _) rfl rfl rfl) ?_
  refine xl_pure rfl rfl rfl (pv_extract (v := .int _ _) rfl rfl rfl) ?_
  refine xl_pure rfl rfl rfl (pv_assign (v := .pointer _) rfl rfl) ?_
  refine xl_pure rfl rfl rfl (pv_assign (v := .int _ _) rfl rfl) ?_
  refine xl_nil ?_
  refine xthen_normal ?_
  refine xc_seq ?_
  refine xc_seq ?_
  refine xc_region ?_
  refine xl_pure rfl rfl rfl (pv_move (v := .int _ _) rfl rfl) ?_
  refine xl_ndec rfl rfl rfl (pv_neq rfl rfl rfl) (fun h2_1 => ?_) (fun h2_1 => ?_)
  · skip
    refine xl_pure rfl rfl rfl (pv_move (v := .bool _) rfl rfl) ?_
    refine xl_pure rfl rfl rfl (pv_move (v := .pointer _) rfl rfl) ?_
    refine xl_pure rfl rfl rfl (pv_eql_pn rfl rfl rfl) ?_
    refine xl_pure rfl rfl rfl (pv_pick_f (v := .bool _) rfl rfl rfl) ?_
    refine xl_nil ?_
    refine xthen_normal ?_
    refine xc_cond_f rfl ?_
    refine xc_skip ?_
    refine xthen_normal ?_
    refine xc_seq ?_
    refine xc_region ?_
    refine xl_pure rfl rfl rfl (pv_move (v := .pointer _) rfl rfl) ?_
    refine xl_heavy rfl rfl rfl (hv_call (g := 9) rfl rfl (askB hb (show GSd aS0 by decide) 1 0 5) rfl) ?_
    rintro v4_1 H4_1 ⟨hv4_1, hb4_1, hK4_1⟩
    rw [show askR aS0 aF0 1 0 5 = true by decide, show askE aS0 aF0 1 0 5 = 0 by decide] at hv4_1
    subst hv4_1
    have hX1 := hX.size
    have hX := hX.keep hK4_1 hge
    have hge := gn_ge (H1 := H4_1) hge hX1
    have hb : BB _ bp _ aS1 aF1 := hb4_1
    refine xl_pure rfl rfl rfl (pv_move (v := .tuple _) rfl rfl) ?_
    refine xl_pure rfl rfl rfl (pv_extract (v := .bool _) rfl rfl rfl) ?_
    refine xl_pure rfl rfl rfl (pv_extract (v := .int _ _) rfl rfl rfl) ?_
    refine xl_pure rfl rfl rfl (pv_assign (v := .bool _) rfl rfl) ?_
    refine xl_pure rfl rfl rfl (pv_assign (v := .int _ _) rfl rfl) ?_
    refine xl_nil ?_
    refine xthen_normal ?_
    refine xc_seq ?_
    refine xc_region ?_
    refine xl_pure rfl rfl rfl (pv_move (v := .pointer _) rfl rfl) ?_
    refine xl_heavy rfl rfl rfl (hv_call (g := 9) rfl rfl (askB hb (show GSd aS1 by decide) 1 0 4) rfl) ?_
    rintro v5_1 H5_1 ⟨hv5_1, hb5_1, hK5_1⟩
    rw [show askR aS1 aF1 1 0 4 = false by decide, show askE aS1 aF1 1 0 4 = 0 by decide] at hv5_1
    subst hv5_1
    have hX1 := hX.size
    have hX := hX.keep hK5_1 hge
    have hge := gn_ge (H1 := H5_1) hge hX1
    have hb : BB _ bp _ aS2 aF2 := hb5_1
    refine xl_pure rfl rfl rfl (pv_move (v := .tuple _) rfl rfl) ?_
    refine xl_pure rfl rfl rfl (pv_extract (v := .bool _) rfl rfl rfl) ?_
    refine xl_pure rfl rfl rfl (pv_extract (v := .int _ _) rfl rfl rfl) ?_
    refine xl_pure rfl rfl rfl (pv_assign (v := .bool _) rfl rfl) ?_
    refine xl_pure rfl rfl rfl (pv_assign (v := .int _ _) rfl rfl) ?_
    refine xl_nil ?_
    refine xthen_normal ?_
    refine xc_seq ?_
    refine xc_region ?_
    refine xl_pure rfl rfl rfl (pv_move (v := .pointer _) rfl rfl) ?_
    refine xl_heavy rfl rfl rfl (hv_call (g := 9) rfl rfl (askB hb (show GSd aS2 by decide) 1 1 6) rfl) ?_
    rintro v6_1 H6_1 ⟨hv6_1, hb6_1, hK6_1⟩
    rw [show askR aS2 aF2 1 1 6 = false by decide, show askE aS2 aF2 1 1 6 = 10 by decide] at hv6_1
    subst hv6_1
    have hX1 := hX.size
    have hX := hX.keep hK6_1 hge
    have hge := gn_ge (H1 := H6_1) hge hX1
    have hb : BB _ bp _ aS3 aF3 := hb6_1
    refine xl_pure rfl rfl rfl (pv_move (v := .tuple _) rfl rfl) ?_
    refine xl_pure rfl rfl rfl (pv_extract (v := .bool _) rfl rfl rfl) ?_
    refine xl_pure rfl rfl rfl (pv_extract (v := .int _ _) rfl rfl rfl) ?_
    refine xl_pure rfl rfl rfl (pv_assign (v := .bool _) rfl rfl) ?_
    refine xl_pure rfl rfl rfl (pv_assign (v := .int _ _) rfl rfl) ?_
    refine xl_nil ?_
    refine xthen_normal ?_
    refine xc_seq ?_
    refine xc_region ?_
    refine xl_pure rfl rfl rfl (pv_move (v := .pointer _) rfl rfl) ?_
    refine xl_heavy rfl rfl rfl (hv_call (g := 14) rfl rfl (whereB hb (show GSd aS3 by decide) (fm_ask (fm_ask (fm_ask fm_new))) 4) rfl) ?_
    rintro v7_1 H7_1 ⟨hv7_1, rfl⟩
    rw [show whV aS3 aF3 4 = .tuple #[.int .i64 1, .int .i64 0, .int .i64 0, .int .i64 0] from rfl] at hv7_1
    subst hv7_1
    refine xl_pure rfl rfl rfl (pv_move (v := .tuple _) rfl rfl) ?_
    refine xl_pure rfl rfl rfl (pv_extract (v := .int _ _) rfl rfl rfl) ?_
    refine xl_pure rfl rfl rfl (pv_extract (v := .int _ _) rfl rfl rfl) ?_
    refine xl_pure rfl rfl rfl (pv_extract (v := .int _ _) rfl rfl rfl) ?_
    refine xl_pure rfl rfl rfl (pv_extract (v := .int _ _) rfl rfl rfl) ?_
    refine xl_pure rfl rfl rfl (pv_assign (v := .int _ _) rfl rfl) ?_
    refine xl_pure rfl rfl rfl (pv_assign (v := .int _ _) rfl rfl) ?_
    refine xl_pure rfl rfl rfl (pv_assign (v := .int _ _) rfl rfl) ?_
    refine xl_pure rfl rfl rfl (pv_assign (v := .int _ _) rfl rfl) ?_
    refine xl_nil ?_
    refine xthen_normal ?_
    refine xc_seq ?_
    refine xc_region ?_
    refine xl_pure rfl rfl rfl (pv_move (v := .pointer _) rfl rfl) ?_
    refine xl_heavy rfl rfl rfl (hv_call (g := 10) rfl rfl (leaveB hb (show GSd aS3 by decide) (fm_ask (fm_ask (fm_ask fm_new))) 5) rfl) ?_
    rintro v8_1 H8_1 ⟨hv8_1, hb8_1, hK8_1⟩
    rw [show levN aS3 aF3 5 = 4 by decide, show levE aF3 5 = 0 by decide] at hv8_1
    subst hv8_1
    have hX1 := hX.size
    have hX := hX.keep hK8_1 hge
    have hb : BB _ bp _ aS4 aF4 := hb8_1
    refine xl_pure rfl rfl rfl (pv_move (v := .tuple _) rfl rfl) ?_
    refine xl_pure rfl rfl rfl (pv_extract (v := .int _ _) rfl rfl rfl) ?_
    refine xl_pure rfl rfl rfl (pv_extract (v := .int _ _) rfl rfl rfl) ?_
    refine xl_pure rfl rfl rfl (pv_assign (v := .int _ _) rfl rfl) ?_
    refine xl_pure rfl rfl rfl (pv_assign (v := .int _ _) rfl rfl) ?_
    refine xl_nil ?_
    refine xthen_normal ?_
    refine xc_seq ?_
    refine xc_region ?_
    refine xl_pure rfl rfl rfl (pv_move (v := .bool _) rfl rfl) ?_
    refine xl_pure rfl rfl rfl (pv_move (v := .bool _) rfl rfl) ?_
    refine xl_pure rfl rfl rfl (pv_move (v := .int _ _) rfl rfl) ?_
    refine xl_dec rfl rfl rfl (pv_eql rfl rfl rfl) (fun h9_3 => ?_) (fun h9_3 => ?_)
    · skip
      refine xl_pure rfl rfl rfl (pv_pick_t (v := .bool _) rfl rfl rfl) ?_
      refine xl_pure rfl rfl rfl (pv_move (v := .bool _) rfl rfl) ?_
      refine xl_pure rfl rfl rfl (pv_move (v := .bool _) rfl rfl) ?_
      refine xl_pure rfl rfl rfl (pv_not rfl rfl) ?_
      refine xl_pure rfl rfl rfl (pv_pick_t (v := .bool _) rfl rfl rfl) ?_
      refine xl_pure rfl rfl rfl (pv_move (v := .bool _) rfl rfl) ?_
      refine xl_pure rfl rfl rfl (pv_move (v := .int _ _) rfl rfl) ?_
      refine xl_dec rfl rfl rfl (pv_eql rfl rfl rfl) (fun h9_11 => ?_) (fun h9_11 => ?_)
      · skip
        refine xl_pure rfl rfl rfl (pv_pick_t (v := .bool _) rfl rfl rfl) ?_
        refine xl_pure rfl rfl rfl (pv_move (v := .bool _) rfl rfl) ?_
        refine xl_pure rfl rfl rfl (pv_move (v := .int _ _) rfl rfl) ?_
        refine xl_dec rfl rfl rfl (pv_eql rfl rfl rfl) (fun h9_15 => ?_) (fun h9_15 => ?_)
        · skip
          refine xl_pure rfl rfl rfl (pv_pick_t (v := .bool _) rfl rfl rfl) ?_
          refine xl_pure rfl rfl rfl (pv_move (v := .bool _) rfl rfl) ?_
          refine xl_pure rfl rfl rfl (pv_move (v := .int _ _) rfl rfl) ?_
          refine xl_dec rfl rfl rfl (pv_eql rfl rfl rfl) (fun h9_19 => ?_) (fun h9_19 => ?_)
          · skip
            refine xl_pure rfl rfl rfl (pv_pick_t (v := .bool _) rfl rfl rfl) ?_
            refine xl_pure rfl rfl rfl (pv_move (v := .bool _) rfl rfl) ?_
            refine xl_pure rfl rfl rfl (pv_move (v := .int _ _) rfl rfl) ?_
            refine xl_dec rfl rfl rfl (pv_eql rfl rfl rfl) (fun h9_23 => ?_) (fun h9_23 => ?_)
            · skip
              refine xl_pure rfl rfl rfl (pv_pick_t (v := .bool _) rfl rfl rfl) ?_
              refine xl_pure rfl rfl rfl (pv_move (v := .bool _) rfl rfl) ?_
              refine xl_pure rfl rfl rfl (pv_move (v := .int _ _) rfl rfl) ?_
              refine xl_dec rfl rfl rfl (pv_eql rfl rfl rfl) (fun h9_27 => ?_) (fun h9_27 => ?_)
              · skip
                refine xl_pure rfl rfl rfl (pv_pick_t (v := .bool _) rfl rfl rfl) ?_
                refine xl_pure rfl rfl rfl (pv_move (v := .bool _) rfl rfl) ?_
                refine xl_pure rfl rfl rfl (pv_move (v := .int _ _) rfl rfl) ?_
                refine xl_dec rfl rfl rfl (pv_eql rfl rfl rfl) (fun h9_31 => ?_) (fun h9_31 => ?_)
                · skip
                  refine xl_pure rfl rfl rfl (pv_pick_t (v := .bool _) rfl rfl rfl) ?_
                  refine xl_pure rfl rfl rfl (pv_move (v := .bool _) rfl rfl) ?_
                  refine xl_pure rfl rfl rfl (pv_move (v := .pointer _) rfl rfl) ?_
                  refine xl_heavy rfl rfl rfl (hv_call (g := 11) rfl rfl (linesB hb (show GSd aS4 by decide)) rfl) ?_
                  rintro v9_35 H9_35 ⟨a9_35, c9_35, rfl, hD9_35, hE9_35⟩
                  have hX := hX.trans hE9_35
                  refine xl_heavy rfl rfl rfl (hv_buildSlice (cs := [.int _ _]) rfl rfl rfl rfl rfl) ?_
                  rintro v9_36 H9_36 ⟨b9_36, rfl, hN9_36⟩
                  have gb9_36 := hX.fresh hN9_36
                  have hX := hX.trans hN9_36.ext
                  have m9_36 := hN9_36.blk
                  refine xl_pure rfl rfl rfl (pv_build_s (cs := [.slice _ _ _, .slice _ _ _]) rfl rfl rfl) ?_
                  refine xl_pure rfl rfl rfl (pv_build_s (cs := [.slice _ _ _, .slice _ _ _]) rfl rfl rfl) ?_
                  refine xl_heavy rfl rfl rfl (hv_buildSlice (cs := [.slice _ _ _, .slice _ _ _, .slice _ _ _, .slice _ _ _]) rfl rfl rfl rfl rfl) ?_
                  rintro v9_39 H9_39 ⟨b9_39, rfl, hN9_39⟩
                  have gb9_39 := hX.fresh hN9_39
                  have nm9_36_9_39 := m9_36.apart hN9_39
                  have m9_36 := m9_36.ext hN9_39.ext
                  have hX := hX.trans hN9_39.ext
                  have m9_39 := hN9_39.blk
                  refine xl_heavy rfl rfl rfl (hv_call (g := 13) rfl rfl (sameL (L2 := [([4], []), ([], [])]) ((hD9_35.ext hN9_36.ext).ext hN9_39.ext) ⟨[⟨0, [4], some ⟨b9_36, 0, none⟩, 1, [], none, 0⟩, ⟨0, [], none, 0, [], none, 0⟩], rfl, fun e he => by simp at he; rcases he with rfl | rfl; exact ⟨.inr ⟨_, 0, rfl, m9_36.row⟩, .inl rfl⟩; exact ⟨.inl rfl, .inl rfl⟩, .inr ⟨_, 0, rfl, m9_39.row⟩⟩ (n1 := 2) rfl rfl (by decide) (by rw [aLn]; decide)) rfl) ?_
                  rintro v9_40 H9_40 ⟨r9_40, rfl, hb9_40, rfl⟩
                  obtain rfl : r9_40 = true := hb9_40.2 aLn
                  refine xl_pure rfl rfl rfl (pv_pick_t (v := .bool _) rfl rfl rfl) ?_
                  refine xl_pure rfl rfl rfl (pv_assign (v := .bool _) rfl rfl) ?_
                  refine xl_nil ?_
                  refine xthen_normal ?_
                  refine xc_ret ?_
                  refine fin_ret (res1 (v := .bool _) rfl rfl) ?_
                  exact ⟨rfl, hX⟩
                · exact absurd rfl h9_31
              · exact absurd rfl h9_27
            · exact absurd rfl h9_23
          · exact absurd rfl h9_19
        · exact absurd (by decide) h9_15
      · exact absurd (by decide) h9_11
    · exact absurd (by decide) h9_3
  · exact absurd (by decide) h2_1
end Go.XG
