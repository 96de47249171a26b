/-
  Walks of the seat's functions over the logic XG: each function, what it computes. Printed by a program out of wip/walks.py.
-/
import Derived.Test.YtdpgbnflielagaaI
import Derived.Test.YtdpgbnflielagaaN
import Derived.Test.YtdpgbnflielagaaWa
import Derived.Test.YtdpgbnflielagaaWb
import Derived.Test.YtdpgbnflielagaaWc
import Derived.Test.YtdpgbnflielagaaWd
import Derived.Test.YtdpgbnflielagaaWe
import Derived.Test.YtdpgbnflielagaaWf
import Derived.Test.YtdpgbnflielagaaWg
import Derived.Test.YtdpgbnflielagaaWh
import Derived.Test.YtdpgbnflielagaaWi
import Derived.Test.YtdpgbnflielagaaWj
import Derived.Test.YtdpgbnflielagaaWk
namespace Go.XG
open Go.Proofs
set_option maxRecDepth 4000
set_option maxHeartbeats 4000000
theorem iSame {O : Outer} {H : Heap} {a1 a2 : Option Addr} {c1 c2 : Nat} {l m : List Int} (h1 : Ints H a1 l) (h2 : Ints H a2 m) (hl : l.length < 1000000) :
    FnC Try.prog 31 #[.slice a1 l.length c1, .slice a2 m.length c2] O H (fun v H' => ∃ r, v = .bool r ∧ (r = true ↔ l = m) ∧ H = H') := by
  refine fn_enter (A := [.slice a1 l.length c1, .slice a2 m.length c2]) Try.func31 rfl rfl ?_
  have hX := Ext.refl H
  refine xc_seq ?_
  refine xc_region ?_
  refine xl_pure rfl rfl rfl (pv_assign (v := .bool _) rfl rfl) ?_
  refine xl_nil ?_
  refine xthen_normal ?_
  refine xc_seq ?_
  refine xc_seq ?_
  refine xc_region ?_
  refine xl_pure rfl rfl rfl (pv_move (v := .slice _ _ _) rfl rfl) ?_
  refine xl_pure rfl rfl rfl (pv_len_l rfl rfl) ?_
  refine xl_pure rfl rfl rfl (pv_move (v := .slice _ _ _) rfl rfl) ?_
  refine xl_pure rfl rfl rfl (pv_len_l rfl rfl) ?_
  refine xl_ndec rfl rfl rfl (pv_neq rfl rfl rfl) (fun h1_4 => ?_) (fun h1_4 => ?_)
  · skip
    refine xl_nil ?_
    refine xthen_normal ?_
    refine xc_cond_f rfl ?_
    refine xc_skip ?_
    refine xthen_normal ?_
    refine xc_seq ?_
    refine xc_seq ?_
    refine xc_region ?_
    refine xl_pure rfl rfl rfl (pv_assign (v := .int _ _) rfl rfl) ?_
    refine xl_nil ?_
    refine xthen_normal ?_
    refine xc_block ?_
    refine xc_loop (τ := Nat) (fun t => [(0, .slice a1 l.length c1), (1, .slice a2 m.length c2), (5, .int .i64 (t : Nat))]) (fun t H' => (t ≤ l.length) ∧ (∀ j, j < t → l.getD j 0 = m.getD j 0) ∧ (H = H') ∧ (Ext H H')) (fun t H' => l.length - t) 0 ?_ ?_ ?_
    · exact ⟨rfl, rfl, rfl, trivial⟩
    · skip
      exact ⟨Nat.zero_le _, fun j h => absurd h (by omega), rfl, hX⟩
    · intro σ
      clear hX
      rintro k Hl4 ⟨hk, hall, heq, hX⟩
      replace hk : k ≤ l.length := hk
      replace hall : ∀ j, j < k → l.getD j 0 = m.getD j 0 := hall
      replace heq : H = Hl4 := heq
      replace hX : Ext H Hl4 := hX
      subst heq
      obtain ⟨g1, o1, hdx⟩ := h1.at'
      obtain ⟨g2, o2, hdy⟩ := h2.at'
      show XC _ _ _ (upds σ [(0, .slice a1 l.length c1), (1, .slice a2 m.length c2), (5, .int .i64 (k : Nat))]) _
      refine xc_seq ?_
      refine xc_seq ?_
      refine xc_region ?_
      refine xl_pure rfl rfl rfl (pv_move (v := .int _ _) rfl rfl) ?_
      refine xl_pure rfl rfl rfl (pv_move (v := .slice _ _ _) rfl rfl) ?_
      refine xl_pure rfl rfl rfl (pv_len_l rfl rfl) ?_
      refine xl_dec rfl rfl rfl (pv_lss rfl rfl rfl) (fun h4_3 => ?_) (fun h4_3 => ?_)
      · skip
        refine xl_pure rfl rfl rfl (pv_move (v := .bool _) rfl rfl) ?_
        refine xl_pure rfl rfl rfl (pv_move (v := .int _ _) rfl rfl) ?_
        refine xl_pure rfl rfl rfl (pv_move (v := .slice _ _ _) rfl rfl) ?_
        refine xl_pure rfl rfl rfl (pv_len_l rfl rfl) ?_
        refine xl_dec rfl rfl rfl (pv_lss rfl rfl rfl) (fun h4_8 => ?_) (fun h4_8 => ?_)
        · skip
          refine xl_pure rfl rfl rfl (pv_pick_t (v := .bool _) rfl rfl rfl) ?_
          refine xl_nil ?_
          refine xthen_normal ?_
          refine xc_cond_t rfl ?_
          refine xc_skip ?_
          refine xthen_normal ?_
          refine xc_seq ?_
          refine xc_block ?_
          refine xc_seq ?_
          refine xp_start rfl (by repeat (first | with_reducible exact np_fin | with_reducible exact np_ret | with_reducible refine np_then ?_ | with_reducible refine np_block ?_)) (by kernel_rfl) ?_
          refine xp_pure (i := 0) rfl (by kernel_rfl) (by kernel_rfl) rfl rfl rfl (pv_move (v := .slice _ _ _) rfl rfl) ?_
          refine xp_pure (i := 1) rfl (by kernel_rfl) (by kernel_rfl) rfl rfl rfl (pv_move (v := .int _ _) rfl rfl) ?_
          refine xp_pure (i := 2) rfl (by kernel_rfl) (by kernel_rfl) rfl rfl rfl (pv_indexAddr_l rfl (sl_eq (hdx (by omega)).1) rfl (by omega)) ?_
          refine xp_light (i := 3) rfl (by kernel_rfl) (by kernel_rfl) rfl rfl rfl (lv_load (v := .int _ _) rfl rfl (by exact ld_nth (hdx (by omega)).2 (by omega))) ?_
          refine xp_pure (i := 4) rfl (by kernel_rfl) (by kernel_rfl) rfl rfl rfl (pv_move (v := .slice _ _ _) rfl rfl) ?_
          refine xp_pure (i := 5) rfl (by kernel_rfl) (by kernel_rfl) rfl rfl rfl (pv_move (v := .int _ _) rfl rfl) ?_
          refine xp_pure (i := 6) rfl (by kernel_rfl) (by kernel_rfl) rfl rfl rfl (pv_indexAddr_l rfl (sl_eq (hdy (by omega)).1) rfl (by omega)) ?_
          refine xp_light (i := 7) rfl (by kernel_rfl) (by kernel_rfl) rfl rfl rfl (lv_load (v := .int _ _) rfl rfl (by exact ld_nth (hdy (by omega)).2 (by omega))) ?_
          refine xp_ndec (i := 8) rfl (by kernel_rfl) (by kernel_rfl) rfl rfl rfl (pv_neq rfl rfl rfl) (fun h6_8 => ?_) (fun h6_8 => ?_)
          · skip
            refine xp_done (by kernel_rfl) ?_
            refine xthen_normal ?_
            refine xc_cond_f rfl ?_
            refine xc_skip ?_
            refine xblock_normal ?_
            refine xthen_normal ?_
            refine xc_region ?_
            refine xl_pure rfl rfl rfl (pv_move (v := .int _ _) rfl rfl) ?_
            refine xl_pure rfl rfl rfl (pv_add rfl rfl rfl (fit_i64 (by omega))) ?_
            refine xl_pure rfl rfl rfl (pv_assign (v := .int _ _) rfl rfl) ?_
            refine xl_nil ?_
            refine xthen_normal ?_
            exact ⟨k + 1, ⟨rfl, rfl, rfl, trivial⟩, ⟨by (try simp only); omega, nx_all hall h6_8, rfl, hX⟩, by (try simp only); omega⟩
          · skip
            refine xp_done (by kernel_rfl) ?_
            refine xthen_normal ?_
            refine xc_cond_t rfl ?_
            refine xc_seq ?_
            refine xc_region ?_
            refine xl_pure rfl rfl rfl (pv_assign (v := .bool _) rfl rfl) ?_
            refine xl_nil ?_
            refine xthen_normal ?_
            refine xc_ret ?_
            refine xblock_ret ?_
            refine xthen_ret ?_
            refine xthen_ret ?_
            refine xblock_ret ?_
            refine xthen_ret ?_
            refine fin_ret (res1 (v := .bool _) rfl rfl) ?_
            exact ⟨false, rfl, ⟨fun h => (by cases h), fun h => by subst h; exact absurd rfl h6_8⟩, rfl⟩
        · skip
          refine xl_pure rfl rfl rfl (pv_pick_t (v := .bool _) rfl rfl rfl) ?_
          refine xl_nil ?_
          refine xthen_normal ?_
          refine xc_cond_f rfl ?_
          refine xc_exit ?_
          refine xthen_exit ?_
          refine xthen_exit ?_
          refine xblock_same ?_
          refine xthen_normal ?_
          refine xc_seq ?_
          refine xc_region ?_
          refine xl_pure rfl rfl rfl (pv_assign (v := .bool _) rfl rfl) ?_
          refine xl_nil ?_
          refine xthen_normal ?_
          refine xc_ret ?_
          refine fin_ret (res1 (v := .bool _) rfl rfl) ?_
          exact ⟨true, rfl, ⟨fun _ => lext (by omega) (fun j hj => hall j (by omega)), fun _ => rfl⟩, rfl⟩
      · skip
        refine xl_pure rfl rfl rfl (pv_move (v := .bool _) rfl rfl) ?_
        refine xl_skip rfl rfl rfl ?_
        refine xl_skip rfl rfl rfl ?_
        refine xl_skip rfl rfl rfl ?_
        refine xl_skip rfl rfl rfl ?_
        refine xl_pure rfl rfl rfl (pv_pick_f (v := .bool _) rfl rfl rfl) ?_
        refine xl_nil ?_
        refine xthen_normal ?_
        refine xc_cond_f rfl ?_
        refine xc_exit ?_
        refine xthen_exit ?_
        refine xthen_exit ?_
        refine xblock_same ?_
        refine xthen_normal ?_
        refine xc_seq ?_
        refine xc_region ?_
        refine xl_pure rfl rfl rfl (pv_assign (v := .bool _) rfl rfl) ?_
        refine xl_nil ?_
        refine xthen_normal ?_
        refine xc_ret ?_
        refine fin_ret (res1 (v := .bool _) rfl rfl) ?_
        exact ⟨true, rfl, ⟨fun _ => lext (by omega) (fun j hj => hall j (by omega)), fun _ => rfl⟩, rfl⟩
  · skip
    refine xl_nil ?_
    refine xthen_normal ?_
    refine xc_cond_t rfl ?_
    refine xc_seq ?_
    refine xc_region ?_
    refine xl_pure rfl rfl rfl (pv_assign (v := .bool _) rfl rfl) ?_
    refine xl_nil ?_
    refine xthen_normal ?_
    refine xc_ret ?_
    refine xthen_ret ?_
    refine fin_ret (res1 (v := .bool _) rfl rfl) ?_
    exact ⟨false, rfl, ⟨fun h => (by cases h), fun h => by subst h; omega⟩, rfl⟩

theorem sameE {O : Outer} {H : Heap} {a1 a2 : Option Addr} {c1 c2 : Nat} {E1 E2 : List Se} (hE1 : ∀ e ∈ E1, Ints H e.ra e.rn ∧ Ints H e.wa e.wt) (hr1 : E1 = [] ∨ ∃ b o, a1 = some ⟨b, o, none⟩ ∧ Row H b o (fL E1)) (hE2 : ∀ e ∈ E2, Ints H e.ra e.rn ∧ Ints H e.wa e.wt) (hr2 : E2 = [] ∨ ∃ b o, a2 = some ⟨b, o, none⟩ ∧ Row H b o (fL E2)) (hl : E1.length < 1000000) (hs : ∀ e ∈ E1, e.rn.length < 1000000 ∧ e.wt.length < 1000000) :
    FnC Try.prog 13 #[.slice a1 E1.length c1, .slice a2 E2.length c2] O H (fun v H' => ∃ r, v = .bool r ∧ (r = true ↔ E1.map lnP = E2.map lnP) ∧ H = H') := by
  refine fn_enter (A := [.slice a1 E1.length c1, .slice a2 E2.length c2]) Try.func13 rfl rfl ?_
  have hX := Ext.refl H
  refine xc_seq ?_
  refine xc_region ?_
  refine xl_pure rfl rfl rfl (pv_assign (v := .bool _) rfl rfl) ?_
  refine xl_nil ?_
  refine xthen_normal ?_
  refine xc_seq ?_
  refine xc_seq ?_
  refine xc_region ?_
  refine xl_pure rfl rfl rfl (pv_move (v := .slice _ _ _) rfl rfl) ?_
  refine xl_pure rfl rfl rfl (pv_len_l rfl rfl) ?_
  refine xl_pure rfl rfl rfl (pv_move (v := .slice _ _ _) rfl rfl) ?_
  refine xl_pure rfl rfl rfl (pv_len_l rfl rfl) ?_
  refine xl_ndec rfl rfl rfl (pv_neq rfl rfl rfl) (fun h1_4 => ?_) (fun h1_4 => ?_)
  · skip
    refine xl_nil ?_
    refine xthen_normal ?_
    refine xc_cond_f rfl ?_
    refine xc_skip ?_
    refine xthen_normal ?_
    refine xc_seq ?_
    refine xc_seq ?_
    refine xc_region ?_
    refine xl_pure rfl rfl rfl (pv_assign (v := .int _ _) rfl rfl) ?_
    refine xl_nil ?_
    refine xthen_normal ?_
    refine xc_block ?_
    refine xc_loop (τ := Nat) (fun t => [(0, .slice a1 E1.length c1), (1, .slice a2 E2.length c2), (5, .int .i64 (t : Nat))]) (fun t H' => (t ≤ E1.length) ∧ (∀ j, j < t → lnP (gE E1 j) = lnP (gE E2 j)) ∧ (H = H') ∧ (Ext H H')) (fun t H' => E1.length - t) 0 ?_ ?_ ?_
    · exact ⟨rfl, rfl, rfl, trivial⟩
    · skip
      exact ⟨Nat.zero_le _, fun j h => absurd h (by omega), rfl, hX⟩
    · intro σ
      clear hX
      rintro k Hl4 ⟨hk, hall, heq, hX⟩
      replace hk : k ≤ E1.length := hk
      replace hall : ∀ j, j < k → lnP (gE E1 j) = lnP (gE E2 j) := hall
      replace heq : H = Hl4 := heq
      replace hX : Ext H Hl4 := hX
      subst heq
      obtain ⟨g1, o1, hdx⟩ := lnAt hr1
      obtain ⟨g2, o2, hdy⟩ := lnAt hr2
      show XC _ _ _ (upds σ [(0, .slice a1 E1.length c1), (1, .slice a2 E2.length c2), (5, .int .i64 (k : Nat))]) _
      refine xc_seq ?_
      refine xc_seq ?_
      refine xc_region ?_
      refine xl_pure rfl rfl rfl (pv_move (v := .int _ _) rfl rfl) ?_
      refine xl_pure rfl rfl rfl (pv_move (v := .slice _ _ _) rfl rfl) ?_
      refine xl_pure rfl rfl rfl (pv_len_l rfl rfl) ?_
      refine xl_dec rfl rfl rfl (pv_lss rfl rfl rfl) (fun h4_3 => ?_) (fun h4_3 => ?_)
      · skip
        refine xl_pure rfl rfl rfl (pv_move (v := .bool _) rfl rfl) ?_
        refine xl_pure rfl rfl rfl (pv_move (v := .int _ _) rfl rfl) ?_
        refine xl_pure rfl rfl rfl (pv_move (v := .slice _ _ _) rfl rfl) ?_
        refine xl_pure rfl rfl rfl (pv_len_l rfl rfl) ?_
        refine xl_dec rfl rfl rfl (pv_lss rfl rfl rfl) (fun h4_8 => ?_) (fun h4_8 => ?_)
        · skip
          refine xl_pure rfl rfl rfl (pv_pick_t (v := .bool _) rfl rfl rfl) ?_
          refine xl_nil ?_
          refine xthen_normal ?_
          refine xc_cond_t rfl ?_
          refine xc_skip ?_
          refine xthen_normal ?_
          refine xc_seq ?_
          refine xc_block ?_
          refine xc_seq ?_
          refine xp_start rfl (by repeat (first | with_reducible exact np_fin | with_reducible exact np_ret | with_reducible refine np_then ?_ | with_reducible refine np_block ?_)) (by kernel_rfl) ?_
          refine xp_pure (i := 0) rfl (by kernel_rfl) (by kernel_rfl) rfl rfl rfl (pv_move (v := .slice _ _ _) rfl rfl) ?_
          refine xp_pure (i := 1) rfl (by kernel_rfl) (by kernel_rfl) rfl rfl rfl (pv_move (v := .int _ _) rfl rfl) ?_
          refine xp_pure (i := 2) rfl (by kernel_rfl) (by kernel_rfl) rfl rfl rfl (pv_indexAddr_l rfl (sl_eq (hdx (by omega)).1) rfl (by omega)) ?_
          refine xp_pure (i := 3) rfl (by kernel_rfl) (by kernel_rfl) rfl rfl rfl (pv_fieldAddr rfl rfl) ?_
          refine xp_light (i := 4) rfl (by kernel_rfl) (by kernel_rfl) rfl rfl rfl (lv_load (v := .slice _ _ _) rfl rfl (by exact ldL (hdx (by omega)).2 (by omega) 0 rfl)) ?_
          refine xp_pure (i := 5) rfl (by kernel_rfl) (by kernel_rfl) rfl rfl rfl (pv_move (v := .slice _ _ _) rfl rfl) ?_
          refine xp_pure (i := 6) rfl (by kernel_rfl) (by kernel_rfl) rfl rfl rfl (pv_move (v := .int _ _) rfl rfl) ?_
          refine xp_pure (i := 7) rfl (by kernel_rfl) (by kernel_rfl) rfl rfl rfl (pv_indexAddr_l rfl (sl_eq (hdy (by omega)).1) rfl (by omega)) ?_
          refine xp_pure (i := 8) rfl (by kernel_rfl) (by kernel_rfl) rfl rfl rfl (pv_fieldAddr rfl rfl) ?_
          refine xp_light (i := 9) rfl (by kernel_rfl) (by kernel_rfl) rfl rfl rfl (lv_load (v := .slice _ _ _) rfl rfl (by exact ldL (hdy (by omega)).2 (by omega) 0 rfl)) ?_
          refine xp_heavy (i := 10) (by kernel_rfl) ?_
          refine xph_val rfl rfl rfl rfl (hv_call (g := 31) rfl rfl (iSame (hE1 _ (gE_in (k := k) (by omega))).1 (hE2 _ (gE_in (k := k) (by omega))).1 (hs _ (gE_in (by omega))).1) rfl) (pd (by kernel_rfl) (pd (by kernel_rfl) pn)) ?_
          rintro v6_10 H6_10 ⟨r6_10, rfl, hb6_10, rfl⟩
          refine ⟨okn, ?_⟩
          cases r6_10
          · skip
            refine xp_pure (i := 11) rfl (by kernel_rfl) (by kernel_rfl) rfl rfl rfl (pv_not rfl rfl) ?_
            refine xp_pure (i := 12) rfl (by kernel_rfl) (by kernel_rfl) rfl rfl rfl (pv_move (v := .bool _) rfl rfl) ?_
            refine xp_skip (i := 13) rfl (by kernel_rfl) (by kernel_rfl) rfl rfl rfl ?_
            refine xp_skip (i := 14) rfl (by kernel_rfl) (by kernel_rfl) rfl rfl rfl ?_
            refine xp_skip (i := 15) rfl (by kernel_rfl) (by kernel_rfl) rfl rfl rfl ?_
            refine xp_skip (i := 16) rfl (by kernel_rfl) (by kernel_rfl) rfl rfl rfl ?_
            refine xp_skip (i := 17) rfl (by kernel_rfl) (by kernel_rfl) rfl rfl rfl ?_
            refine xp_skip (i := 18) rfl (by kernel_rfl) (by kernel_rfl) rfl rfl rfl ?_
            refine xp_skip (i := 19) rfl (by kernel_rfl) (by kernel_rfl) rfl rfl rfl ?_
            refine xp_skip (i := 20) rfl (by kernel_rfl) (by kernel_rfl) rfl rfl rfl ?_
            refine xp_skip (i := 21) rfl (by kernel_rfl) (by kernel_rfl) rfl rfl rfl ?_
            refine xp_skip (i := 22) rfl (by kernel_rfl) (by kernel_rfl) rfl rfl rfl ?_
            refine xp_skip (i := 23) rfl (by kernel_rfl) (by kernel_rfl) rfl rfl rfl ?_
            refine xp_skip (i := 24) rfl (by kernel_rfl) (by kernel_rfl) rfl rfl rfl ?_
            refine xp_pure (i := 25) rfl (by kernel_rfl) (by kernel_rfl) rfl rfl rfl (pv_pick_t (v := .bool _) rfl rfl rfl) ?_
            refine xp_done (by kernel_rfl) ?_
            refine xthen_normal ?_
            refine xc_cond_t rfl ?_
            refine xc_seq ?_
            refine xc_region ?_
            refine xl_pure rfl rfl rfl (pv_assign (v := .bool _) rfl rfl) ?_
            refine xl_nil ?_
            refine xthen_normal ?_
            refine xc_ret ?_
            refine xblock_ret ?_
            refine xthen_ret ?_
            refine xthen_ret ?_
            refine xblock_ret ?_
            refine xthen_ret ?_
            refine fin_ret (res1 (v := .bool _) rfl rfl) ?_
            first
              | exact ⟨false, rfl, ⟨fun h => (by cases h), fun h => absurd (hb6_23.2 (ln_at h (show k < E1.length by omega)).2) (by decide)⟩, rfl⟩
              | exact ⟨false, rfl, ⟨fun h => (by cases h), fun h => absurd (hb6_10.2 (ln_at h (show k < E1.length by omega)).1) (by decide)⟩, rfl⟩
          · skip
            refine xp_pure (i := 11) rfl (by kernel_rfl) (by kernel_rfl) rfl rfl rfl (pv_not rfl rfl) ?_
            refine xp_pure (i := 12) rfl (by kernel_rfl) (by kernel_rfl) rfl rfl rfl (pv_move (v := .bool _) rfl rfl) ?_
            refine xp_pure (i := 13) rfl (by kernel_rfl) (by kernel_rfl) rfl rfl rfl (pv_move (v := .slice _ _ _) rfl rfl) ?_
            refine xp_pure (i := 14) rfl (by kernel_rfl) (by kernel_rfl) rfl rfl rfl (pv_move (v := .int _ _) rfl rfl) ?_
            refine xp_pure (i := 15) rfl (by kernel_rfl) (by kernel_rfl) rfl rfl rfl (pv_indexAddr_l rfl (sl_eq (hdx (by omega)).1) rfl (by omega)) ?_
            refine xp_pure (i := 16) rfl (by kernel_rfl) (by kernel_rfl) rfl rfl rfl (pv_fieldAddr rfl rfl) ?_
            refine xp_light (i := 17) rfl (by kernel_rfl) (by kernel_rfl) rfl rfl rfl (lv_load (v := .slice _ _ _) rfl rfl (by exact ldL (hdx (by omega)).2 (by omega) 1 rfl)) ?_
            refine xp_pure (i := 18) rfl (by kernel_rfl) (by kernel_rfl) rfl rfl rfl (pv_move (v := .slice _ _ _) rfl rfl) ?_
            refine xp_pure (i := 19) rfl (by kernel_rfl) (by kernel_rfl) rfl rfl rfl (pv_move (v := .int _ _) rfl rfl) ?_
            refine xp_pure (i := 20) rfl (by kernel_rfl) (by kernel_rfl) rfl rfl rfl (pv_indexAddr_l rfl (sl_eq (hdy (by omega)).1) rfl (by omega)) ?_
            refine xp_pure (i := 21) rfl (by kernel_rfl) (by kernel_rfl) rfl rfl rfl (pv_fieldAddr rfl rfl) ?_
            refine xp_light (i := 22) rfl (by kernel_rfl) (by kernel_rfl) rfl rfl rfl (lv_load (v := .slice _ _ _) rfl rfl (by exact ldL (hdy (by omega)).2 (by omega) 1 rfl)) ?_
            refine xp_heavy (i := 23) (by kernel_rfl) ?_
            refine xph_val rfl rfl rfl rfl (hv_call (g := 31) rfl rfl (iSame (hE1 _ (gE_in (k := k) (by omega))).2 (hE2 _ (gE_in (k := k) (by omega))).2 (hs _ (gE_in (by omega))).2) rfl) (pd (by kernel_rfl) (pd (by kernel_rfl) pn)) ?_
            rintro v6_23 H6_23 ⟨r6_23, rfl, hb6_23, rfl⟩
            refine ⟨okn, ?_⟩
            cases r6_23
            · skip
              refine xp_pure (i := 24) rfl (by kernel_rfl) (by kernel_rfl) rfl rfl rfl (pv_not rfl rfl) ?_
              refine xp_pure (i := 25) rfl (by kernel_rfl) (by kernel_rfl) rfl rfl rfl (pv_pick_f (v := .bool _) rfl rfl rfl) ?_
              refine xp_done (by kernel_rfl) ?_
              refine xthen_normal ?_
              refine xc_cond_t rfl ?_
              refine xc_seq ?_
              refine xc_region ?_
              refine xl_pure rfl rfl rfl (pv_assign (v := .bool _) rfl rfl) ?_
              refine xl_nil ?_
              refine xthen_normal ?_
              refine xc_ret ?_
              refine xblock_ret ?_
              refine xthen_ret ?_
              refine xthen_ret ?_
              refine xblock_ret ?_
              refine xthen_ret ?_
              refine fin_ret (res1 (v := .bool _) rfl rfl) ?_
              first
                | exact ⟨false, rfl, ⟨fun h => (by cases h), fun h => absurd (hb6_23.2 (ln_at h (show k < E1.length by omega)).2) (by decide)⟩, rfl⟩
                | exact ⟨false, rfl, ⟨fun h => (by cases h), fun h => absurd (hb6_10.2 (ln_at h (show k < E1.length by omega)).1) (by decide)⟩, rfl⟩
            · skip
              refine xp_pure (i := 24) rfl (by kernel_rfl) (by kernel_rfl) rfl rfl rfl (pv_not rfl rfl) ?_
              refine xp_pure (i := 25) rfl (by kernel_rfl) (by kernel_rfl) rfl rfl rfl (pv_pick_f (v := .bool _) rfl rfl rfl) ?_
              refine xp_done (by kernel_rfl) ?_
              refine xthen_normal ?_
              refine xc_cond_f rfl ?_
              refine xc_skip ?_
              refine xblock_normal ?_
              refine xthen_normal ?_
              refine xc_region ?_
              refine xl_pure rfl rfl rfl (pv_move (v := .int _ _) rfl rfl) ?_
              refine xl_pure rfl rfl rfl (pv_add rfl rfl rfl (fit_i64 (by omega))) ?_
              refine xl_pure rfl rfl rfl (pv_assign (v := .int _ _) rfl rfl) ?_
              refine xl_nil ?_
              refine xthen_normal ?_
              exact ⟨k + 1, ⟨rfl, rfl, rfl, trivial⟩, ⟨by (try simp only); omega, nx_all hall (Prod.ext (hb6_10.1 rfl) (hb6_23.1 rfl)), rfl, hX⟩, by (try simp only); omega⟩
        · skip
          refine xl_pure rfl rfl rfl (pv_pick_t (v := .bool _) rfl rfl rfl) ?_
          refine xl_nil ?_
          refine xthen_normal ?_
          refine xc_cond_f rfl ?_
          refine xc_exit ?_
          refine xthen_exit ?_
          refine xthen_exit ?_
          refine xblock_same ?_
          refine xthen_normal ?_
          refine xc_seq ?_
          refine xc_region ?_
          refine xl_pure rfl rfl rfl (pv_assign (v := .bool _) rfl rfl) ?_
          refine xl_nil ?_
          refine xthen_normal ?_
          refine xc_ret ?_
          refine fin_ret (res1 (v := .bool _) rfl rfl) ?_
          exact ⟨true, rfl, ⟨fun _ => ln_ext (by omega) (fun j hj => hall j (by omega)), fun _ => rfl⟩, rfl⟩
      · skip
        refine xl_pure rfl rfl rfl (pv_move (v := .bool _) rfl rfl) ?_
        refine xl_skip rfl rfl rfl ?_
        refine xl_skip rfl rfl rfl ?_
        refine xl_skip rfl rfl rfl ?_
        refine xl_skip rfl rfl rfl ?_
        refine xl_pure rfl rfl rfl (pv_pick_f (v := .bool _) rfl rfl rfl) ?_
        refine xl_nil ?_
        refine xthen_normal ?_
        refine xc_cond_f rfl ?_
        refine xc_exit ?_
        refine xthen_exit ?_
        refine xthen_exit ?_
        refine xblock_same ?_
        refine xthen_normal ?_
        refine xc_seq ?_
        refine xc_region ?_
        refine xl_pure rfl rfl rfl (pv_assign (v := .bool _) rfl rfl) ?_
        refine xl_nil ?_
        refine xthen_normal ?_
        refine xc_ret ?_
        refine fin_ret (res1 (v := .bool _) rfl rfl) ?_
        exact ⟨true, rfl, ⟨fun _ => ln_ext (by omega) (fun j hj => hall j (by omega)), fun _ => rfl⟩, rfl⟩
  · skip
    refine xl_nil ?_
    refine xthen_normal ?_
    refine xc_cond_t rfl ?_
    refine xc_seq ?_
    refine xc_region ?_
    refine xl_pure rfl rfl rfl (pv_assign (v := .bool _) rfl rfl) ?_
    refine xl_nil ?_
    refine xthen_normal ?_
    refine xc_ret ?_
    refine xthen_ret ?_
    refine fin_ret (res1 (v := .bool _) rfl rfl) ?_
    exact ⟨false, rfl, ⟨fun h => (by cases h), fun h => by have := congrArg List.length h; rw [List.length_map, List.length_map] at this; omega⟩, rfl⟩

theorem sameL {O : Outer} {H : Heap} {a1 a2 : Option Addr} {c1 c2 n1 n2 : Nat} {L1 L2 : List Ln} (h1 : LD H a1 L1) (h2 : LD H a2 L2) (e1 : L1.length = n1) (e2 : L2.length = n2) (hl : L1.length < 1000000) (hs : ∀ e ∈ L1, e.1.length < 1000000 ∧ e.2.length < 1000000) :
    FnC Try.prog 13 #[.slice a1 n1 c1, .slice a2 n2 c2] O H (fun v H' => ∃ r, v = .bool r ∧ (r = true ↔ L1 = L2) ∧ H = H') := by
  obtain ⟨E1, rfl, g1, g2⟩ := h1
  obtain ⟨E2, rfl, g3, g4⟩ := h2
  subst e1; subst e2
  rw [List.length_map] at hl
  rw [List.length_map, List.length_map]
  exact sameE g1 g2 g3 g4 hl (fun e he => hs _ (List.mem_map.2 ⟨e, he, rfl⟩))
end Go.XG
