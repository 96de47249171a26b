/-
  Walks of the seat's functions over the logic XG: each function, what it computes. Printed by a program out of wip/walks.py.
-/
import Derived.Test.YtdpgbnflielagaaI
import Derived.Test.YtdpgbnflielagaaN
import Derived.Test.YtdpgbnflielagaaDe
import Derived.Test.YtdpgbnflielagaaWa
import Derived.Test.YtdpgbnflielagaaWb
import Derived.Test.YtdpgbnflielagaaWc
import Derived.Test.YtdpgbnflielagaaWd
import Derived.Test.YtdpgbnflielagaaWe
import Derived.Test.YtdpgbnflielagaaWf
import Derived.Test.YtdpgbnflielagaaWg
import Derived.Test.YtdpgbnflielagaaWh
import Derived.Test.YtdpgbnflielagaaWi
import Derived.Test.YtdpgbnflielagaaWj
import Derived.Test.YtdpgbnflielagaaWk
import Derived.Test.YtdpgbnflielagaaWl
import Derived.Test.YtdpgbnflielagaaWm
import Derived.Test.YtdpgbnflielagaaWo
import Derived.Test.YtdpgbnflielagaaWp
import Derived.Test.YtdpgbnflielagaaWq
import Derived.Test.YtdpgbnflielagaaWr
import Derived.Test.YtdpgbnflielagaaWs
import Derived.Test.YtdpgbnflielagaaWt
import Derived.Test.YtdpgbnflielagaaWu
import Derived.Test.YtdpgbnflielagaaWx
import Derived.Test.YtdpgbnflielagaaWy
namespace Go.XG
open Go.Proofs
set_option maxRecDepth 4000
set_option maxHeartbeats 4000000
theorem sorted {O : Outer} {H : Heap} {a : Option Addr} {c : Nat} {l : List Int} (hs : Ints H a l) (hl : l.length < 1000000) :
    FnC Try.prog 37 #[.slice a l.length c] O H (fun v H' => ((SrtI l l.length ∧ v = .bool true ∨ ¬ SrtI l l.length ∧ v = .bool false) ∧ H = H')) := by
  refine fn_enter (A := [.slice a l.length c]) Try.func37 rfl rfl ?_
  have hX := Ext.refl H
  refine xc_seq ?_
  refine xc_region ?_
  refine xl_pure rfl rfl rfl (pv_assign (v := .bool _) rfl rfl) ?_
  refine xl_nil ?_
  refine xthen_normal ?_
  refine xc_seq ?_
  refine xc_seq ?_
  refine xc_region ?_
  refine xl_pure rfl rfl rfl (pv_move (v := .slice _ _ _) rfl rfl) ?_
  refine xl_pure rfl rfl rfl (pv_len_l rfl rfl) ?_
  refine xl_pure rfl rfl rfl (pv_sub rfl rfl rfl (fit_i64 (by omega))) ?_
  refine xl_pure rfl rfl rfl (pv_assign (v := .int _ _) rfl rfl) ?_
  refine xl_nil ?_
  refine xthen_normal ?_
  refine xc_block ?_
  refine xc_loop (τ := Int) (fun t => [(0, .slice a l.length c), (3, .int .i64 t)]) (fun t H' => (-1 ≤ t ∧ t < l.length) ∧ (∀ x : Nat, t < x → 0 < x → x < l.length → l.getD (x - 1) 0 ≤ l.getD x 0) ∧ (H = H') ∧ (Ext H H')) (fun t H' => (t + 1).toNat) ((l.length : Int) - 1) ?_ ?_ ?_
  · exact ⟨rfl, rfl, trivial⟩
  · skip
    exact ⟨⟨by omega, by omega⟩, fun x h1 h2 h3 => by omega, rfl, hX⟩
  · intro σ
    clear hX
    rintro i Hl2 ⟨hi, hs2, heq, hX⟩
    replace hi : -1 ≤ i ∧ i < l.length := hi
    replace hs2 : ∀ x : Nat, i < x → 0 < x → x < l.length → l.getD (x - 1) 0 ≤ l.getD x 0 := hs2
    replace heq : H = Hl2 := heq
    replace hX : Ext H Hl2 := hX
    subst heq
    obtain ⟨ba, off, hae⟩ := hs.at'
    show XC _ _ _ (upds σ [(0, .slice a l.length c), (3, .int .i64 i)]) _
    refine xc_seq ?_
    refine xc_seq ?_
    refine xc_region ?_
    refine xl_pure rfl rfl rfl (pv_move (v := .int _ _) rfl rfl) ?_
    refine xl_dec rfl rfl rfl (pv_gtr rfl rfl rfl) (fun h2_1 => ?_) (fun h2_1 => ?_)
    · skip
      refine xl_nil ?_
      refine xthen_normal ?_
      refine xc_cond_t rfl ?_
      refine xc_skip ?_
      refine xthen_normal ?_
      refine xc_seq ?_
      refine xc_block ?_
      refine xc_seq ?_
      refine xp_start rfl (by repeat (first | with_reducible exact np_fin | with_reducible exact np_ret | with_reducible refine np_then ?_ | with_reducible refine np_block ?_)) (by kernel_rfl) ?_
      refine xp_pure (i := 0) rfl (by kernel_rfl) (by kernel_rfl) rfl rfl rfl (pv_move (v := .slice _ _ _) rfl rfl) ?_
      refine xp_pure (i := 1) rfl (by kernel_rfl) (by kernel_rfl) rfl rfl rfl (pv_move (v := .int _ _) rfl rfl) ?_
      refine xp_pure (i := 2) rfl (by kernel_rfl) (by kernel_rfl) rfl rfl rfl (pv_indexAddr_l rfl (sl_eq (hae (by omega)).1) rfl (by omega)) ?_
      refine xp_light (i := 3) rfl (by kernel_rfl) (by kernel_rfl) rfl rfl rfl (lv_load (v := .int _ _) rfl rfl (by exact ld_nth (k := i.toNat) (hae (by omega)).2 (by omega))) ?_
      refine xp_pure (i := 4) rfl (by kernel_rfl) (by kernel_rfl) rfl rfl rfl (pv_move (v := .slice _ _ _) rfl rfl) ?_
      refine xp_pure (i := 5) rfl (by kernel_rfl) (by kernel_rfl) rfl rfl rfl (pv_move (v := .int _ _) rfl rfl) ?_
      refine xp_pure (i := 6) rfl (by kernel_rfl) (by kernel_rfl) rfl rfl rfl (pv_sub rfl rfl rfl (fit_i64 (by omega))) ?_
      refine xp_pure (i := 7) rfl (by kernel_rfl) (by kernel_rfl) rfl rfl rfl (pv_indexAddr_l rfl (sl_eq (hae (by omega)).1) rfl (by omega)) ?_
      refine xp_light (i := 8) rfl (by kernel_rfl) (by kernel_rfl) rfl rfl rfl (lv_load (v := .int _ _) rfl rfl (by exact ld_nth (k := (i - 1).toNat) (hae (by omega)).2 (by omega))) ?_
      refine xp_heavy (i := 9) (by kernel_rfl) ?_
      refine xph_val rfl rfl rfl rfl (hv_call (g := 48) rfl rfl (less (l.getD i.toNat 0) (l.getD (i - 1).toNat 0)) rfl) (pd (by kernel_rfl) (pd (by kernel_rfl) pn)) ?_
      rintro v4_9 H4_9 ⟨hv4_9, rfl⟩
      refine ⟨okn, ?_⟩
      rcases hv4_9 with ⟨hi4_9, rfl⟩ | ⟨hi4_9, rfl⟩
      · skip
        refine xp_done (by kernel_rfl) ?_
        refine xthen_normal ?_
        refine xc_cond_t rfl ?_
        refine xc_seq ?_
        refine xc_region ?_
        refine xl_pure rfl rfl rfl (pv_assign (v := .bool _) rfl rfl) ?_
        refine xl_nil ?_
        refine xthen_normal ?_
        refine xc_ret ?_
        refine xblock_ret ?_
        refine xthen_ret ?_
        refine xthen_ret ?_
        refine xblock_ret ?_
        refine xthen_ret ?_
        refine fin_ret (res1 (v := .bool _) rfl rfl) ?_
        exact ⟨.inr ⟨fun h => srtI_get (i := i.toNat) h (by omega) (by omega) (by rw [show i.toNat - 1 = (i - 1).toNat by omega]; exact hi4_9), rfl⟩, rfl⟩
      · skip
        refine xp_done (by kernel_rfl) ?_
        refine xthen_normal ?_
        refine xc_cond_f rfl ?_
        refine xc_skip ?_
        refine xblock_normal ?_
        refine xthen_normal ?_
        refine xc_region ?_
        refine xl_pure rfl rfl rfl (pv_move (v := .int _ _) rfl rfl) ?_
        refine xl_pure rfl rfl rfl (pv_sub rfl rfl rfl (fit_i64 (by omega))) ?_
        refine xl_pure rfl rfl rfl (pv_assign (v := .int _ _) rfl rfl) ?_
        refine xl_nil ?_
        refine xthen_normal ?_
        exact ⟨(i - 1), ⟨rfl, rfl, trivial⟩, ⟨⟨by omega, by omega⟩, srtI_dn hs2 (by omega) hi4_9, rfl, hX⟩, by (try simp only); omega⟩
    · skip
      refine xl_nil ?_
      refine xthen_normal ?_
      refine xc_cond_f rfl ?_
      refine xc_exit ?_
      refine xthen_exit ?_
      refine xthen_exit ?_
      refine xblock_same ?_
      refine xthen_normal ?_
      refine xc_seq ?_
      refine xc_region ?_
      refine xl_pure rfl rfl rfl (pv_assign (v := .bool _) rfl rfl) ?_
      refine xl_nil ?_
      refine xthen_normal ?_
      refine xc_ret ?_
      refine fin_ret (res1 (v := .bool _) rfl rfl) ?_
      exact ⟨.inl ⟨srtI_all hs2 (by omega), rfl⟩, rfl⟩

theorem few {O : Outer} {H : Heap} {a xa : Option Addr} {c xc : Nat} {l : List (List Int)} {E : List Se} {G : Nat → Prop} {B : Nat} (hE : LE B H G xa E) :
    FnC Try.prog 18 #[.slice a l.length c, .slice xa E.length xc] O H (fun v H' => ((l.length ≤ 12 ∧ E.length ≤ 24 ∧ (∀ n, n < E.length → (gE E n).rn.length ≤ 12 ∧ (gE E n).wt.length ≤ 12) ∧ v = .bool true) ∨ v = .bool false) ∧ H = H') := by
  obtain ⟨gx, ox, hdx⟩ := hE.at'
  refine fn_enter (A := [.slice a l.length c, .slice xa E.length xc]) Try.func18 rfl rfl ?_
  have hX := Ext.refl H
  refine xc_seq ?_
  refine xc_region ?_
  refine xl_pure rfl rfl rfl (pv_assign (v := .bool _) rfl rfl) ?_
  refine xl_nil ?_
  refine xthen_normal ?_
  refine xc_seq ?_
  refine xc_seq ?_
  refine xc_region ?_
  refine xl_pure rfl rfl rfl (pv_assign (v := .int _ _) rfl rfl) ?_
  refine xl_nil ?_
  refine xthen_normal ?_
  refine xc_block ?_
  refine xc_loop (τ := Nat) (fun t => [(0, .slice a l.length c), (1, .slice xa E.length xc), (5, .int .i64 (t : Nat))]) (fun t H' => (t ≤ 24) ∧ (∀ n, n < t → n < E.length → (gE E n).rn.length ≤ 12 ∧ (gE E n).wt.length ≤ 12) ∧ (H = H') ∧ (Ext H H')) (fun t H' => 24 - t) 0 ?_ ?_ ?_
  · exact ⟨rfl, rfl, rfl, trivial⟩
  · skip
    exact ⟨Nat.zero_le _, fun n h => absurd h (Nat.not_lt_zero n), rfl, hX⟩
  · intro σ
    clear hX
    rintro i Hl2 ⟨hi, hall, heq, hX⟩
    replace hi : i ≤ 24 := hi
    replace hall : ∀ n, n < i → n < E.length → (gE E n).rn.length ≤ 12 ∧ (gE E n).wt.length ≤ 12 := hall
    replace heq : H = Hl2 := heq
    replace hX : Ext H Hl2 := hX
    subst heq
    show XC _ _ _ (upds σ [(0, .slice a l.length c), (1, .slice xa E.length xc), (5, .int .i64 (i : Nat))]) _
    refine xc_seq ?_
    refine xc_seq ?_
    refine xc_region ?_
    refine xl_pure rfl rfl rfl (pv_move (v := .int _ _) rfl rfl) ?_
    refine xl_pure rfl rfl rfl (pv_move (v := .slice _ _ _) rfl rfl) ?_
    refine xl_pure rfl rfl rfl (pv_len_l rfl rfl) ?_
    refine xl_dec rfl rfl rfl (pv_lss rfl rfl rfl) (fun h2_3 => ?_) (fun h2_3 => ?_)
    · skip
      refine xl_pure rfl rfl rfl (pv_move (v := .bool _) rfl rfl) ?_
      refine xl_pure rfl rfl rfl (pv_move (v := .int _ _) rfl rfl) ?_
      refine xl_dec rfl rfl rfl (pv_lss rfl rfl rfl) (fun h2_6 => ?_) (fun h2_6 => ?_)
      · skip
        refine xl_pure rfl rfl rfl (pv_pick_t (v := .bool _) rfl rfl rfl) ?_
        refine xl_nil ?_
        refine xthen_normal ?_
        refine xc_cond_t rfl ?_
        refine xc_skip ?_
        refine xthen_normal ?_
        refine xc_seq ?_
        refine xc_block ?_
        refine xc_seq ?_
        refine xc_region ?_
        refine xl_pure rfl rfl rfl (pv_move (v := .slice _ _ _) rfl rfl) ?_
        refine xl_pure rfl rfl rfl (pv_move (v := .int _ _) rfl rfl) ?_
        refine xl_pure rfl rfl rfl (pv_indexAddr_l rfl (sl_eq (hdx (by omega)).1) rfl (by omega)) ?_
        refine xl_pure rfl rfl rfl (pv_fieldAddr rfl rfl) ?_
        refine xl_light rfl rfl rfl (lv_load (v := .slice _ _ _) rfl rfl (by exact ldL (k := i) (hdx (by omega)).2 (by omega) 0 rfl)) ?_
        refine xl_pure rfl rfl rfl (pv_len_l rfl rfl) ?_
        refine xl_dec rfl rfl rfl (pv_gtr rfl rfl rfl) (fun h4_6 => ?_) (fun h4_6 => ?_)
        · skip
          refine xl_pure rfl rfl rfl (pv_move (v := .bool _) rfl rfl) ?_
          refine xl_skip rfl rfl rfl ?_
          refine xl_skip rfl rfl rfl ?_
          refine xl_skip rfl rfl rfl ?_
          refine xl_skip rfl rfl rfl ?_
          refine xl_skip rfl rfl rfl ?_
          refine xl_skip rfl rfl rfl ?_
          refine xl_skip rfl rfl rfl ?_
          refine xl_pure rfl rfl rfl (pv_pick_t (v := .bool _) rfl rfl rfl) ?_
          refine xl_nil ?_
          refine xthen_normal ?_
          refine xc_cond_t rfl ?_
          refine xc_seq ?_
          refine xc_region ?_
          refine xl_pure rfl rfl rfl (pv_assign (v := .bool _) rfl rfl) ?_
          refine xl_nil ?_
          refine xthen_normal ?_
          refine xc_ret ?_
          refine xblock_ret ?_
          refine xthen_ret ?_
          refine xthen_ret ?_
          refine xblock_ret ?_
          refine xthen_ret ?_
          refine fin_ret (res1 (v := .bool _) rfl rfl) ?_
          exact ⟨.inr rfl, rfl⟩
        · skip
          refine xl_pure rfl rfl rfl (pv_move (v := .bool _) rfl rfl) ?_
          refine xl_pure rfl rfl rfl (pv_move (v := .slice _ _ _) rfl rfl) ?_
          refine xl_pure rfl rfl rfl (pv_move (v := .int _ _) rfl rfl) ?_
          refine xl_pure rfl rfl rfl (pv_indexAddr_l rfl (sl_eq (hdx (by omega)).1) rfl (by omega)) ?_
          refine xl_pure rfl rfl rfl (pv_fieldAddr rfl rfl) ?_
          refine xl_light rfl rfl rfl (lv_load (v := .slice _ _ _) rfl rfl (by exact ldL (k := i) (hdx (by omega)).2 (by omega) 1 rfl)) ?_
          refine xl_pure rfl rfl rfl (pv_len_l rfl rfl) ?_
          refine xl_dec rfl rfl rfl (pv_gtr rfl rfl rfl) (fun h4_14 => ?_) (fun h4_14 => ?_)
          · skip
            refine xl_pure rfl rfl rfl (pv_pick_f (v := .bool _) rfl rfl rfl) ?_
            refine xl_nil ?_
            refine xthen_normal ?_
            refine xc_cond_t rfl ?_
            refine xc_seq ?_
            refine xc_region ?_
            refine xl_pure rfl rfl rfl (pv_assign (v := .bool _) rfl rfl) ?_
            refine xl_nil ?_
            refine xthen_normal ?_
            refine xc_ret ?_
            refine xblock_ret ?_
            refine xthen_ret ?_
            refine xthen_ret ?_
            refine xblock_ret ?_
            refine xthen_ret ?_
            refine fin_ret (res1 (v := .bool _) rfl rfl) ?_
            exact ⟨.inr rfl, rfl⟩
          · skip
            refine xl_pure rfl rfl rfl (pv_pick_f (v := .bool _) rfl rfl rfl) ?_
            refine xl_nil ?_
            refine xthen_normal ?_
            refine xc_cond_f rfl ?_
            refine xc_skip ?_
            refine xblock_normal ?_
            refine xthen_normal ?_
            refine xc_region ?_
            refine xl_pure rfl rfl rfl (pv_move (v := .int _ _) rfl rfl) ?_
            refine xl_pure rfl rfl rfl (pv_add rfl rfl rfl (fit_i64 (by omega))) ?_
            refine xl_pure rfl rfl rfl (pv_assign (v := .int _ _) rfl rfl) ?_
            refine xl_nil ?_
            refine xthen_normal ?_
            exact ⟨i + 1, ⟨rfl, rfl, rfl, trivial⟩, ⟨by (try simp only); omega, nx_all hall (fun _ => ⟨by omega, by omega⟩), rfl, hX⟩, by (try simp only); omega⟩
      · skip
        refine xl_pure rfl rfl rfl (pv_pick_t (v := .bool _) rfl rfl rfl) ?_
        refine xl_nil ?_
        refine xthen_normal ?_
        refine xc_cond_f rfl ?_
        refine xc_exit ?_
        refine xthen_exit ?_
        refine xthen_exit ?_
        refine xblock_same ?_
        refine xthen_normal ?_
        refine xc_seq ?_
        refine xc_region ?_
        refine xl_pure rfl rfl rfl (pv_move (v := .slice _ _ _) rfl rfl) ?_
        refine xl_pure rfl rfl rfl (pv_len_l rfl rfl) ?_
        refine xl_dec rfl rfl rfl (pv_leq rfl rfl rfl) (fun h6_2 => ?_) (fun h6_2 => ?_)
        · skip
          refine xl_pure rfl rfl rfl (pv_move (v := .bool _) rfl rfl) ?_
          refine xl_pure rfl rfl rfl (pv_move (v := .slice _ _ _) rfl rfl) ?_
          refine xl_pure rfl rfl rfl (pv_len_l rfl rfl) ?_
          refine xl_dec rfl rfl rfl (pv_leq rfl rfl rfl) (fun h6_6 => ?_) (fun h6_6 => ?_)
          · skip
            refine xl_pure rfl rfl rfl (pv_pick_t (v := .bool _) rfl rfl rfl) ?_
            refine xl_pure rfl rfl rfl (pv_assign (v := .bool _) rfl rfl) ?_
            refine xl_nil ?_
            refine xthen_normal ?_
            refine xc_ret ?_
            refine fin_ret (res1 (v := .bool _) rfl rfl) ?_
            first
              | exact ⟨.inl ⟨by omega, by omega, fun n hn => hall n (by omega) hn, rfl⟩, rfl⟩
              | exact ⟨.inr rfl, rfl⟩
          · skip
            refine xl_pure rfl rfl rfl (pv_pick_t (v := .bool _) rfl rfl rfl) ?_
            refine xl_pure rfl rfl rfl (pv_assign (v := .bool _) rfl rfl) ?_
            refine xl_nil ?_
            refine xthen_normal ?_
            refine xc_ret ?_
            refine fin_ret (res1 (v := .bool _) rfl rfl) ?_
            first
              | exact ⟨.inl ⟨by omega, by omega, fun n hn => hall n (by omega) hn, rfl⟩, rfl⟩
              | exact ⟨.inr rfl, rfl⟩
        · skip
          refine xl_pure rfl rfl rfl (pv_move (v := .bool _) rfl rfl) ?_
          refine xl_skip rfl rfl rfl ?_
          refine xl_skip rfl rfl rfl ?_
          refine xl_skip rfl rfl rfl ?_
          refine xl_pure rfl rfl rfl (pv_pick_f (v := .bool _) rfl rfl rfl) ?_
          refine xl_pure rfl rfl rfl (pv_assign (v := .bool _) rfl rfl) ?_
          refine xl_nil ?_
          refine xthen_normal ?_
          refine xc_ret ?_
          refine fin_ret (res1 (v := .bool _) rfl rfl) ?_
          first
            | exact ⟨.inl ⟨by omega, by omega, fun n hn => hall n (by omega) hn, rfl⟩, rfl⟩
            | exact ⟨.inr rfl, rfl⟩
    · skip
      refine xl_pure rfl rfl rfl (pv_move (v := .bool _) rfl rfl) ?_
      refine xl_skip rfl rfl rfl ?_
      refine xl_skip rfl rfl rfl ?_
      refine xl_pure rfl rfl rfl (pv_pick_f (v := .bool _) rfl rfl rfl) ?_
      refine xl_nil ?_
      refine xthen_normal ?_
      refine xc_cond_f rfl ?_
      refine xc_exit ?_
      refine xthen_exit ?_
      refine xthen_exit ?_
      refine xblock_same ?_
      refine xthen_normal ?_
      refine xc_seq ?_
      refine xc_region ?_
      refine xl_pure rfl rfl rfl (pv_move (v := .slice _ _ _) rfl rfl) ?_
      refine xl_pure rfl rfl rfl (pv_len_l rfl rfl) ?_
      refine xl_dec rfl rfl rfl (pv_leq rfl rfl rfl) (fun h6_2 => ?_) (fun h6_2 => ?_)
      · skip
        refine xl_pure rfl rfl rfl (pv_move (v := .bool _) rfl rfl) ?_
        refine xl_pure rfl rfl rfl (pv_move (v := .slice _ _ _) rfl rfl) ?_
        refine xl_pure rfl rfl rfl (pv_len_l rfl rfl) ?_
        refine xl_dec rfl rfl rfl (pv_leq rfl rfl rfl) (fun h6_6 => ?_) (fun h6_6 => ?_)
        · skip
          refine xl_pure rfl rfl rfl (pv_pick_t (v := .bool _) rfl rfl rfl) ?_
          refine xl_pure rfl rfl rfl (pv_assign (v := .bool _) rfl rfl) ?_
          refine xl_nil ?_
          refine xthen_normal ?_
          refine xc_ret ?_
          refine fin_ret (res1 (v := .bool _) rfl rfl) ?_
          first
            | exact ⟨.inl ⟨by omega, by omega, fun n hn => hall n (by omega) hn, rfl⟩, rfl⟩
            | exact ⟨.inr rfl, rfl⟩
        · skip
          refine xl_pure rfl rfl rfl (pv_pick_t (v := .bool _) rfl rfl rfl) ?_
          refine xl_pure rfl rfl rfl (pv_assign (v := .bool _) rfl rfl) ?_
          refine xl_nil ?_
          refine xthen_normal ?_
          refine xc_ret ?_
          refine fin_ret (res1 (v := .bool _) rfl rfl) ?_
          first
            | exact ⟨.inl ⟨by omega, by omega, fun n hn => hall n (by omega) hn, rfl⟩, rfl⟩
            | exact ⟨.inr rfl, rfl⟩
      · skip
        refine xl_pure rfl rfl rfl (pv_move (v := .bool _) rfl rfl) ?_
        refine xl_skip rfl rfl rfl ?_
        refine xl_skip rfl rfl rfl ?_
        refine xl_skip rfl rfl rfl ?_
        refine xl_pure rfl rfl rfl (pv_pick_f (v := .bool _) rfl rfl rfl) ?_
        refine xl_pure rfl rfl rfl (pv_assign (v := .bool _) rfl rfl) ?_
        refine xl_nil ?_
        refine xthen_normal ?_
        refine xc_ret ?_
        refine fin_ret (res1 (v := .bool _) rfl rfl) ?_
        first
          | exact ⟨.inl ⟨by omega, by omega, fun n hn => hall n (by omega) hn, rfl⟩, rfl⟩
          | exact ⟨.inr rfl, rfl⟩

theorem load {O : Outer} {H : Heap} {a xa : Option Addr} {c xc : Nat} {l : List (List Int)} {E : List Se} {G : Nat → Prop} {B : Nat} (hs : Rows H a 4 l) (hl : l.length < 1000000) (hE : LE B H G xa E) (hEs : ∀ e ∈ E, e.rn.length < 1000000 ∧ e.wt.length < 1000000) :
    FnC Try.prog 19 #[.slice a l.length c, .slice xa E.length xc] O H (fun v H' => ((ldOk l E ∧ ∃ bp f, v = .tuple #[.pointer (some ⟨bp, 0, none⟩), .int .i64 0] ∧ BB H' bp (fun j => H.size ≤ j ∧ j < H'.size) (loS l E) f ∧ ∀ j (r : Int), f j = some r ↔ ∃ n : Nat, r = (n : Int) ∧ n < E.length ∧ j ∈ jlE (gE E n)) ∨ (¬ ldOk l E ∧ v = .tuple #[.pointer none, .int .i64 1])) ∧ Ext H H') := by
  obtain ⟨gx, ox, hdx⟩ := hE.at'
  refine fn_enter (A := [.slice a l.length c, .slice xa E.length xc]) Try.func19 rfl rfl ?_
  have hX := Ext.refl H
  refine xc_seq ?_
  refine xc_region ?_
  refine xl_pure rfl rfl rfl (pv_assign (v := .pointer _) rfl rfl) ?_
  refine xl_pure rfl rfl rfl (pv_assign (v := .int _ _) rfl rfl) ?_
  refine xl_nil ?_
  refine xthen_normal ?_
  refine xc_seq ?_
  refine xc_region ?_
  refine xl_pure rfl rfl rfl (pv_move (v := .slice _ _ _) rfl rfl) ?_
  refine xl_heavy rfl rfl rfl (hv_call (g := 7) rfl rfl (new_ hs hl) rfl) ?_
  rintro v1_1 H1_1 ⟨hv1_1, hE1_1⟩
  have hX := hX.trans hE1_1
  rcases hv1_1 with ⟨hok, bp, rfl, hb⟩ | ⟨hno, rfl⟩
  · skip
    obtain ⟨T, hTS, va, vc, m, mp, hO, hm, hL0, hGp, hGm, hGa⟩ := hb
    have hL := hL0.mono (G' := fun j => H.size ≤ j) (fun j h => h.1)
    have hTl : T.length = 2 * l.length := by have := congrArg List.length hTS; rw [List.length_map, newS_len] at this; exact this
    have h8 := hok.1
    refine xl_pure rfl rfl rfl (pv_move (v := .tuple _) rfl rfl) ?_
    refine xl_pure rfl rfl rfl (pv_extract (v := .pointer _) rfl rfl rfl) ?_
    refine xl_pure rfl rfl rfl (pv_extract (v := .int _ _) rfl rfl rfl) ?_
    refine xl_pure rfl rfl rfl (pv_assign (v := .pointer _) rfl rfl) ?_
    refine xl_pure rfl rfl rfl (pv_assign (v := .int _ _) rfl rfl) ?_
    refine xl_nil ?_
    refine xthen_normal ?_
    refine xc_seq ?_
    refine xc_seq ?_
    refine xc_region ?_
    refine xl_pure rfl rfl rfl (pv_move (v := .int _ _) rfl rfl) ?_
    refine xl_ndec rfl rfl rfl (pv_neq rfl rfl rfl) (fun h2_1 => ?_) (fun h2_1 => ?_)
    · skip
      refine xl_pure rfl rfl rfl (pv_move (v := .bool _) rfl rfl) ?_
      refine xl_pure rfl rfl rfl (pv_move (v := .slice _ _ _) rfl rfl) ?_
      refine xl_pure rfl rfl rfl (pv_len_l rfl rfl) ?_
      refine xl_pure rfl rfl rfl (pv_move (v := .pointer _) rfl rfl) ?_
      refine xl_pure rfl rfl rfl (pv_nilCheck_p rfl rfl) ?_
      refine xl_pure rfl rfl rfl (pv_fieldAddr rfl rfl) ?_
      refine xl_light rfl rfl rfl (lv_load (v := .slice _ _ _) rfl rfl (ld_blk mp rfl)) ?_
      refine xl_pure rfl rfl rfl (pv_len_l rfl rfl) ?_
      refine xl_ndec rfl rfl rfl (pv_neq rfl rfl rfl) (fun h2_10 => ?_) (fun h2_10 => ?_)
      · skip
        refine xl_pure rfl rfl rfl (pv_pick_f (v := .bool _) rfl rfl rfl) ?_
        refine xl_nil ?_
        refine xthen_normal ?_
        refine xc_cond_f rfl ?_
        refine xc_skip ?_
        refine xthen_normal ?_
        refine xc_seq ?_
        refine xc_seq ?_
        have hTE : T.length = E.length := by omega
        have hE2 : E.length = 2 * l.length := by omega
        refine xc_region ?_
        refine xl_pure rfl rfl rfl (pv_move (v := .slice _ _ _) rfl rfl) ?_
        refine xl_pure rfl rfl rfl (pv_len_l rfl rfl) ?_
        refine xl_pure rfl rfl rfl (pv_move (v := .int _ _) rfl rfl) ?_
        refine xl_nil ?_
        refine xthen_normal ?_
        refine xc_block ?_
        refine xc_loop (τ := Nat × List Se × Fn) (fun t => [(6, .pointer (some ⟨bp, 0, none⟩)), (33, .slice xa E.length xc), (34, .int .i64 (E.length : Nat)), (35, .int .i64 (t.1 : Nat))]) (fun t H' => (t.1 ≤ E.length) ∧ (TP l E t.2.1 t.1) ∧ (LdG l E t.1 0) ∧ (CG E t.1 [] t.2.2) ∧ (Blk H' bp [.slice va E.length vc, .map (some m)] 52) ∧ (Own H' 0 69 3 (.slice va E.length vc) E.length (fE t.2.1)) ∧ (MapI H' m t.2.2) ∧ (LS H' (fun j => H.size ≤ j) t.2.1) ∧ (Ext H H')) (fun t H' => E.length - t.1) (0, T, (fun _ => none)) ?_ ?_ ?_
        · exact ⟨rfl, rfl, rfl, rfl, trivial⟩
        · skip
          exact ⟨Nat.zero_le _, tp_0 hTS hTE, ldg_0, cg_0, by rw [← hTE]; exact mp, by rw [← hTE]; exact hO, hm, hL, hX⟩
        · intro σ
          clear hX mp hO hm hL
          rintro ⟨k, T, g⟩ Hl5 ⟨hk, hTP, hg, hcg, mp, hO, hm, hL, hX⟩
          replace hk : k ≤ E.length := hk
          replace hTP : TP l E T k := hTP
          replace hg : LdG l E k 0 := hg
          replace hcg : CG E k [] g := hcg
          replace mp : Blk Hl5 bp [.slice va E.length vc, .map (some m)] 52 := mp
          replace hO : Own Hl5 0 69 3 (.slice va E.length vc) E.length (fE T) := hO
          replace hm : MapI Hl5 m g := hm
          replace hL : LS Hl5 (fun j => H.size ≤ j) T := hL
          replace hX : Ext H Hl5 := hX
          show XC _ _ _ (upds σ [(6, .pointer (some ⟨bp, 0, none⟩)), (33, .slice xa E.length xc), (34, .int .i64 (E.length : Nat)), (35, .int .i64 (k : Nat))]) _
          refine xc_seq ?_
          refine xc_region ?_
          refine xl_dec rfl rfl rfl (pv_lss rfl rfl rfl) (fun h5_0 => ?_) (fun h5_0 => ?_)
          · skip
            refine xl_nil ?_
            refine xthen_normal ?_
            refine xc_seq ?_
            refine xc_cond_t rfl ?_
            refine xc_skip ?_
            refine xthen_normal ?_
            refine xc_seq ?_
            refine xc_block ?_
            refine xc_seq ?_
            have hkE : k < E.length := by omega
            have hTl2 := hTP.1
            have hkT : k < T.length := by omega
            obtain ⟨gb, ex, hae, mg, -, hnc, hcm, hexl⟩ := (own_blk2 hO).resolve_left (by omega)
            have hgl : 0 + k * 3 + 3 ≤ (fE T ++ ex).length := by rw [List.length_append, fE_len]; omega
            have hgb0 : H.size ≤ gb := (hGa gb ⟨_, hae, rfl⟩).1
            obtain ⟨hgr, hgw⟩ := hE.get (k := k) hkE
            obtain ⟨gr1, or1, hdr⟩ := hgr.ints.at'
            obtain ⟨gw1, ow1, hdw⟩ := hgw.ints.at'
            obtain ⟨hes1, hes2⟩ := hEs _ (gE_in hkE)
            obtain ⟨hs0, hs8⟩ := ok_get hok (k := k) (by omega)
            have hsl := hTP.sl hkT
            have hjl := jl_len (E := E) (k := k)
            refine xc_region ?_
            refine xl_pure rfl rfl rfl (pv_move (v := .int _ _) rfl rfl) ?_
            refine xl_pure rfl rfl rfl (pv_indexAddr_l rfl (sl_eq (hdx (by omega)).1) rfl (by omega)) ?_
            refine xl_light rfl rfl rfl (lv_load (v := .agg _) rfl rfl (by exact ldLs (k := k) ((hdx (by omega)).2.ext hX) hkE)) ?_
            refine xl_heavy rfl rfl rfl (hv_alloc rfl rfl) ?_
            rintro v6_3 H6_3 ⟨b6_3, rfl, hN6_3⟩
            have gb6_3 := hX.fresh hN6_3
            have mp := mp.ext hN6_3.ext
            have mg := mg.ext hN6_3.ext
            have hm := hm.ext hN6_3.ext
            have hL := hL.ext hN6_3.ext
            have hX := hX.trans hN6_3.ext
            have m6_3 := hN6_3.blk
            refine xl_pure rfl rfl rfl (pv_assign (v := .int _ _) rfl rfl) ?_
            refine xl_store rfl rfl (hv_storeA (vs := [.slice _ _ _, .slice _ _ _]) rfl rfl rfl (m6_3) rfl (by rfl) rfl) ?_
            rintro v6_5 H6_5 ⟨hU6_5, hZ6_5⟩
            have mp := mp.off hU6_5.but (by first | exact nmp_6_3 | exact ⟨mp.ne m6_3 rfl⟩ | exact ⟨mp.ne m6_3 (by assumption)⟩ | exact ⟨Ne.symm (m6_3.ne mp (by assumption))⟩)
            have hm := hm.offT m6_3 hU6_5.but (by first | rfl | assumption)
            have hL := hL.offT m6_3 hU6_5.but (by first | rfl | assumption)
            have mg := mg.off hU6_5.but (by first | exact nmg_6_3 | exact ⟨mg.ne m6_3 rfl⟩ | exact ⟨mg.ne m6_3 (by assumption)⟩ | exact ⟨Ne.symm (m6_3.ne mg (by assumption))⟩)
            have hX := hX.upd hU6_5.but gb6_3
            have m6_3 := hU6_5.blk
            refine xl_nil ?_
            refine xthen_normal ?_
            refine xc_seq ?_
            refine xc_region ?_
            refine xl_pure rfl rfl rfl (pv_move (v := .pointer _) rfl rfl) ?_
            refine xl_pure rfl rfl rfl (pv_nilCheck_p rfl rfl) ?_
            refine xl_pure rfl rfl rfl (pv_fieldAddr rfl rfl) ?_
            refine xl_light rfl rfl rfl (lv_load (v := .slice _ _ _) rfl rfl (ld_blk mp rfl)) ?_
            refine xl_pure rfl rfl rfl (pv_move (v := .int _ _) rfl rfl) ?_
            refine xl_pure rfl rfl rfl (pv_indexAddr_l rfl (sl_eq hae) rfl (by omega)) ?_
            refine xl_pure rfl rfl rfl (pv_assign (v := .pointer _) rfl rfl) ?_
            refine xl_nil ?_
            refine xthen_normal ?_
            refine xc_seq ?_
            refine xp_start rfl (by repeat (first | with_reducible exact np_fin | with_reducible exact np_ret | with_reducible refine np_then ?_ | with_reducible refine np_block ?_)) (by kernel_rfl) ?_
            refine xp_pure (i := 0) rfl (by kernel_rfl) (by kernel_rfl) rfl rfl rfl (pv_fieldAddr rfl rfl) ?_
            refine xp_light (i := 1) rfl (by kernel_rfl) (by kernel_rfl) rfl rfl rfl (lv_load (v := .slice _ _ _) rfl rfl (ld_blk m6_3 rfl)) ?_
            refine xp_pure (i := 2) rfl (by kernel_rfl) (by kernel_rfl) rfl rfl rfl (pv_len_l rfl rfl) ?_
            refine xp_pure (i := 3) rfl (by kernel_rfl) (by kernel_rfl) rfl rfl rfl (pv_move (v := .pointer _) rfl rfl) ?_
            refine xp_pure (i := 4) rfl (by kernel_rfl) (by kernel_rfl) rfl rfl rfl (pv_nilCheck_p rfl rfl) ?_
            refine xp_pure (i := 5) rfl (by kernel_rfl) (by kernel_rfl) rfl rfl rfl (pv_fieldAddr rfl rfl) ?_
            refine xp_light (i := 6) rfl (by kernel_rfl) (by kernel_rfl) rfl rfl rfl (lv_load (v := .int _ _) rfl rfl (by exact ldE mg hkT 0 rfl)) ?_
            refine xp_dec (i := 7) rfl (by kernel_rfl) (by kernel_rfl) rfl rfl rfl (pv_eql rfl rfl rfl) (fun h8_7 => ?_) (fun h8_7 => ?_)
            · skip
              refine xp_pure (i := 8) rfl (by kernel_rfl) (by kernel_rfl) rfl rfl rfl (pv_move (v := .bool _) rfl rfl) ?_
              refine xp_pure (i := 9) rfl (by kernel_rfl) (by kernel_rfl) rfl rfl rfl (pv_move (v := .pointer _) rfl rfl) ?_
              refine xp_pure (i := 10) rfl (by kernel_rfl) (by kernel_rfl) rfl rfl rfl (pv_nilCheck_p rfl rfl) ?_
              refine xp_pure (i := 11) rfl (by kernel_rfl) (by kernel_rfl) rfl rfl rfl (pv_fieldAddr rfl rfl) ?_
              refine xp_light (i := 12) rfl (by kernel_rfl) (by kernel_rfl) rfl rfl rfl (lv_load (v := .int _ _) rfl rfl (by exact ldE mg hkT 0 rfl)) ?_
              refine xp_dec (i := 13) rfl (by kernel_rfl) (by kernel_rfl) rfl rfl rfl (pv_gtr rfl rfl rfl) (fun h8_13 => ?_) (fun h8_13 => ?_)
              · skip
                refine xp_pure (i := 14) rfl (by kernel_rfl) (by kernel_rfl) rfl rfl rfl (pv_pick_t (v := .bool _) rfl rfl rfl) ?_
                refine xp_pure (i := 15) rfl (by kernel_rfl) (by kernel_rfl) rfl rfl rfl (pv_assign (v := .bool _) rfl rfl) ?_
                refine xp_done (by kernel_rfl) ?_
                refine xthen_normal ?_
                refine xc_cut (τ := Unit) (fun t => [(6, .pointer (some ⟨bp, 0, none⟩)), (8, .int .i64 (k : Nat)), (9, .pointer (some ⟨b6_3, 0, none⟩)), (10, .pointer (some ⟨gb, 0 + k * 3, none⟩)), (33, .slice xa E.length xc), (34, .int .i64 (E.length : Nat)), (35, .int .i64 (k : Nat))]) (fun t H' => (lnOk ((sls l).getD k 0) (gE E k).rn (gE E k).wt) ∧ (SrtI (gE E k).rn (gE E k).rn.length) ∧ (Blk H' bp [.slice va E.length vc, .map (some m)] 52) ∧ (Blk H' gb (fE T ++ ex) 69) ∧ (Blk H' b6_3 [.slice (gE E k).ra (gE E k).rn.length (gE E k).rc, .slice (gE E k).wa (gE E k).wt.length (gE E k).wc] 40) ∧ (MapI H' m g) ∧ (LS H' (fun j => H.size ≤ j) T) ∧ (Ext H H')) ?_ ?_
                · skip
                  refine xc_seq ?_
                  refine xp_start rfl (by repeat (first | with_reducible exact np_fin | with_reducible exact np_ret | with_reducible refine np_then ?_ | with_reducible refine np_block ?_)) (by kernel_rfl) ?_
                  refine xp_pure (i := 0) rfl (by kernel_rfl) (by kernel_rfl) rfl rfl rfl (pv_fieldAddr rfl rfl) ?_
                  refine xp_light (i := 1) rfl (by kernel_rfl) (by kernel_rfl) rfl rfl rfl (lv_load (v := .slice _ _ _) rfl rfl (ld_blk m6_3 rfl)) ?_
                  refine xp_pure (i := 2) rfl (by kernel_rfl) (by kernel_rfl) rfl rfl rfl (pv_len_l rfl rfl) ?_
                  refine xp_pure (i := 3) rfl (by kernel_rfl) (by kernel_rfl) rfl rfl rfl (pv_move (v := .pointer _) rfl rfl) ?_
                  refine xp_pure (i := 4) rfl (by kernel_rfl) (by kernel_rfl) rfl rfl rfl (pv_nilCheck_p rfl rfl) ?_
                  refine xp_pure (i := 5) rfl (by kernel_rfl) (by kernel_rfl) rfl rfl rfl (pv_fieldAddr rfl rfl) ?_
                  refine xp_light (i := 6) rfl (by kernel_rfl) (by kernel_rfl) rfl rfl rfl (lv_load (v := .int _ _) rfl rfl (by exact ldE mg hkT 0 rfl)) ?_
                  refine xp_dec (i := 7) rfl (by kernel_rfl) (by kernel_rfl) rfl rfl rfl (pv_gtr rfl rfl rfl) (fun h9_7 => ?_) (fun h9_7 => ?_)
                  · skip
                    refine xp_pure (i := 8) rfl (by kernel_rfl) (by kernel_rfl) rfl rfl rfl (pv_move (v := .bool _) rfl rfl) ?_
                    refine xp_skip (i := 9) rfl (by kernel_rfl) (by kernel_rfl) rfl rfl rfl ?_
                    refine xp_skip (i := 10) rfl (by kernel_rfl) (by kernel_rfl) rfl rfl rfl ?_
                    refine xp_skip (i := 11) rfl (by kernel_rfl) (by kernel_rfl) rfl rfl rfl ?_
                    refine xp_skip (i := 12) rfl (by kernel_rfl) (by kernel_rfl) rfl rfl rfl ?_
                    refine xp_pure (i := 13) rfl (by kernel_rfl) (by kernel_rfl) rfl rfl rfl (pv_pick_t (v := .bool _) rfl rfl rfl) ?_
                    refine xp_pure (i := 14) rfl (by kernel_rfl) (by kernel_rfl) rfl rfl rfl (pv_move (v := .bool _) rfl rfl) ?_
                    refine xp_skip (i := 15) rfl (by kernel_rfl) (by kernel_rfl) rfl rfl rfl ?_
                    refine xp_skip (i := 16) rfl (by kernel_rfl) (by kernel_rfl) rfl rfl rfl ?_
                    refine xp_skip (i := 17) rfl (by kernel_rfl) (by kernel_rfl) rfl rfl rfl ?_
                    refine xp_skip (i := 18) rfl (by kernel_rfl) (by kernel_rfl) rfl rfl rfl ?_
                    refine xp_skip (i := 19) rfl (by kernel_rfl) (by kernel_rfl) rfl rfl rfl ?_
                    refine xp_skip (i := 20) rfl (by kernel_rfl) (by kernel_rfl) rfl rfl rfl ?_
                    refine xp_skip (i := 21) rfl (by kernel_rfl) (by kernel_rfl) rfl rfl rfl ?_
                    refine xp_skip (i := 22) rfl (by kernel_rfl) (by kernel_rfl) rfl rfl rfl ?_
                    refine xp_pure (i := 23) rfl (by kernel_rfl) (by kernel_rfl) rfl rfl rfl (pv_pick_t (v := .bool _) rfl rfl rfl) ?_
                    refine xp_pure (i := 24) rfl (by kernel_rfl) (by kernel_rfl) rfl rfl rfl (pv_move (v := .bool _) rfl rfl) ?_
                    refine xp_skip (i := 25) rfl (by kernel_rfl) (by kernel_rfl) rfl rfl rfl ?_
                    refine xp_skip (i := 26) rfl (by kernel_rfl) (by kernel_rfl) rfl rfl rfl ?_
                    refine xp_skip (i := 27) rfl (by kernel_rfl) (by kernel_rfl) rfl rfl rfl ?_
                    refine xp_skip (i := 28) rfl (by kernel_rfl) (by kernel_rfl) rfl rfl rfl ?_
                    refine xp_pure (i := 29) rfl (by kernel_rfl) (by kernel_rfl) rfl rfl rfl (pv_pick_t (v := .bool _) rfl rfl rfl) ?_
                    refine xp_done (by kernel_rfl) ?_
                    refine xthen_normal ?_
                    refine xc_cond_t rfl ?_
                    refine xc_seq ?_
                    refine xc_region ?_
                    refine xl_pure rfl rfl rfl (pv_assign (v := .pointer _) rfl rfl) ?_
                    refine xl_pure rfl rfl rfl (pv_assign (v := .int _ _) rfl rfl) ?_
                    refine xl_nil ?_
                    refine xthen_normal ?_
                    refine xc_ret ?_
                    refine xthen_ret ?_
                    refine xblock_ret ?_
                    refine xthen_ret ?_
                    refine xthen_ret ?_
                    refine xblock_ret ?_
                    refine xthen_ret ?_
                    refine fin_ret (res2 (v := .pointer _) (x := .int _ _) rfl rfl rfl) ?_
                    first
                      | exact ⟨.inr ⟨fun h => hi9_27 (h.at_ k hkE).2, rfl⟩, hX⟩
                      | exact ⟨.inr ⟨fun h => by obtain ⟨⟨p1, p2, p3⟩, p4⟩ := h.at_ k hkE; rcases Nat.eq_zero_or_pos (gE E k).wt.length with h0 | h0; omega; have := p3 h0; omega, rfl⟩, hX⟩
                  · skip
                    refine xp_pure (i := 8) rfl (by kernel_rfl) (by kernel_rfl) rfl rfl rfl (pv_move (v := .bool _) rfl rfl) ?_
                    refine xp_pure (i := 9) rfl (by kernel_rfl) (by kernel_rfl) rfl rfl rfl (pv_fieldAddr rfl rfl) ?_
                    refine xp_light (i := 10) rfl (by kernel_rfl) (by kernel_rfl) rfl rfl rfl (lv_load (v := .slice _ _ _) rfl rfl (ld_blk m6_3 rfl)) ?_
                    refine xp_pure (i := 11) rfl (by kernel_rfl) (by kernel_rfl) rfl rfl rfl (pv_len_l rfl rfl) ?_
                    refine xp_dec (i := 12) rfl (by kernel_rfl) (by kernel_rfl) rfl rfl rfl (pv_gtr rfl rfl rfl) (fun h9_12 => ?_) (fun h9_12 => ?_)
                    · skip
                      refine xp_pure (i := 13) rfl (by kernel_rfl) (by kernel_rfl) rfl rfl rfl (pv_pick_f (v := .bool _) rfl rfl rfl) ?_
                      refine xp_pure (i := 14) rfl (by kernel_rfl) (by kernel_rfl) rfl rfl rfl (pv_move (v := .bool _) rfl rfl) ?_
                      refine xp_skip (i := 15) rfl (by kernel_rfl) (by kernel_rfl) rfl rfl rfl ?_
                      refine xp_skip (i := 16) rfl (by kernel_rfl) (by kernel_rfl) rfl rfl rfl ?_
                      refine xp_skip (i := 17) rfl (by kernel_rfl) (by kernel_rfl) rfl rfl rfl ?_
                      refine xp_skip (i := 18) rfl (by kernel_rfl) (by kernel_rfl) rfl rfl rfl ?_
                      refine xp_skip (i := 19) rfl (by kernel_rfl) (by kernel_rfl) rfl rfl rfl ?_
                      refine xp_skip (i := 20) rfl (by kernel_rfl) (by kernel_rfl) rfl rfl rfl ?_
                      refine xp_skip (i := 21) rfl (by kernel_rfl) (by kernel_rfl) rfl rfl rfl ?_
                      refine xp_skip (i := 22) rfl (by kernel_rfl) (by kernel_rfl) rfl rfl rfl ?_
                      refine xp_pure (i := 23) rfl (by kernel_rfl) (by kernel_rfl) rfl rfl rfl (pv_pick_t (v := .bool _) rfl rfl rfl) ?_
                      refine xp_pure (i := 24) rfl (by kernel_rfl) (by kernel_rfl) rfl rfl rfl (pv_move (v := .bool _) rfl rfl) ?_
                      refine xp_skip (i := 25) rfl (by kernel_rfl) (by kernel_rfl) rfl rfl rfl ?_
                      refine xp_skip (i := 26) rfl (by kernel_rfl) (by kernel_rfl) rfl rfl rfl ?_
                      refine xp_skip (i := 27) rfl (by kernel_rfl) (by kernel_rfl) rfl rfl rfl ?_
                      refine xp_skip (i := 28) rfl (by kernel_rfl) (by kernel_rfl) rfl rfl rfl ?_
                      refine xp_pure (i := 29) rfl (by kernel_rfl) (by kernel_rfl) rfl rfl rfl (pv_pick_t (v := .bool _) rfl rfl rfl) ?_
                      refine xp_done (by kernel_rfl) ?_
                      refine xthen_normal ?_
                      refine xc_cond_t rfl ?_
                      refine xc_seq ?_
                      refine xc_region ?_
                      refine xl_pure rfl rfl rfl (pv_assign (v := .pointer _) rfl rfl) ?_
                      refine xl_pure rfl rfl rfl (pv_assign (v := .int _ _) rfl rfl) ?_
                      refine xl_nil ?_
                      refine xthen_normal ?_
                      refine xc_ret ?_
                      refine xthen_ret ?_
                      refine xblock_ret ?_
                      refine xthen_ret ?_
                      refine xthen_ret ?_
                      refine xblock_ret ?_
                      refine xthen_ret ?_
                      refine fin_ret (res2 (v := .pointer _) (x := .int _ _) rfl rfl rfl) ?_
                      first
                        | exact ⟨.inr ⟨fun h => hi9_27 (h.at_ k hkE).2, rfl⟩, hX⟩
                        | exact ⟨.inr ⟨fun h => by obtain ⟨⟨p1, p2, p3⟩, p4⟩ := h.at_ k hkE; rcases Nat.eq_zero_or_pos (gE E k).wt.length with h0 | h0; omega; have := p3 h0; omega, rfl⟩, hX⟩
                    · skip
                      refine xp_pure (i := 13) rfl (by kernel_rfl) (by kernel_rfl) rfl rfl rfl (pv_pick_f (v := .bool _) rfl rfl rfl) ?_
                      refine xp_pure (i := 14) rfl (by kernel_rfl) (by kernel_rfl) rfl rfl rfl (pv_move (v := .bool _) rfl rfl) ?_
                      refine xp_pure (i := 15) rfl (by kernel_rfl) (by kernel_rfl) rfl rfl rfl (pv_fieldAddr rfl rfl) ?_
                      refine xp_light (i := 16) rfl (by kernel_rfl) (by kernel_rfl) rfl rfl rfl (lv_load (v := .slice _ _ _) rfl rfl (ld_blk m6_3 rfl)) ?_
                      refine xp_pure (i := 17) rfl (by kernel_rfl) (by kernel_rfl) rfl rfl rfl (pv_len_l rfl rfl) ?_
                      refine xp_dec (i := 18) rfl (by kernel_rfl) (by kernel_rfl) rfl rfl rfl (pv_gtr rfl rfl rfl) (fun h9_18 => ?_) (fun h9_18 => ?_)
                      · skip
                        refine xp_pure (i := 19) rfl (by kernel_rfl) (by kernel_rfl) rfl rfl rfl (pv_move (v := .bool _) rfl rfl) ?_
                        refine xp_pure (i := 20) rfl (by kernel_rfl) (by kernel_rfl) rfl rfl rfl (pv_move (v := .bool _) rfl rfl) ?_
                        refine xp_pure (i := 21) rfl (by kernel_rfl) (by kernel_rfl) rfl rfl rfl (pv_not rfl rfl) ?_
                        refine xp_pure (i := 22) rfl (by kernel_rfl) (by kernel_rfl) rfl rfl rfl (pv_pick_t (v := .bool _) rfl rfl rfl) ?_
                        refine xp_pure (i := 23) rfl (by kernel_rfl) (by kernel_rfl) rfl rfl rfl (pv_pick_f (v := .bool _) rfl rfl rfl) ?_
                        refine xp_pure (i := 24) rfl (by kernel_rfl) (by kernel_rfl) rfl rfl rfl (pv_move (v := .bool _) rfl rfl) ?_
                        refine xp_pure (i := 25) rfl (by kernel_rfl) (by kernel_rfl) rfl rfl rfl (pv_fieldAddr rfl rfl) ?_
                        refine xp_light (i := 26) rfl (by kernel_rfl) (by kernel_rfl) rfl rfl rfl (lv_load (v := .slice _ _ _) rfl rfl (ld_blk m6_3 rfl)) ?_
                        refine xp_heavy (i := 27) (by kernel_rfl) ?_
                        refine xph_val rfl rfl rfl rfl (hv_call (g := 37) rfl rfl (sorted (((hE.get hkE).1.ints).ext hX) hes1) rfl) (pd (by kernel_rfl) (pk (by kernel_rfl) (pk (by kernel_rfl) (pk (by kernel_rfl) (pk (by kernel_rfl) pn))))) ?_
                        rintro v9_27 H9_27 ⟨hv9_27, rfl⟩
                        refine ⟨(okc (lv_load (v := .slice _ _ _) rfl rfl (ld_blk m6_3 rfl)) (okc (lv_load (v := .slice _ _ _) rfl rfl (ld_blk m6_3 rfl)) (okc (lv_load (v := .int _ _) rfl rfl (by exact ldE mg hkT 0 rfl)) (okc (lv_load (v := .slice _ _ _) rfl rfl (ld_blk m6_3 rfl)) okn)))), ?_⟩
                        rcases hv9_27 with ⟨hi9_27, rfl⟩ | ⟨hi9_27, rfl⟩
                        · skip
                          refine xp_pure (i := 28) rfl (by kernel_rfl) (by kernel_rfl) rfl rfl rfl (pv_not rfl rfl) ?_
                          refine xp_pure (i := 29) rfl (by kernel_rfl) (by kernel_rfl) rfl rfl rfl (pv_pick_f (v := .bool _) rfl rfl rfl) ?_
                          refine xp_done (by kernel_rfl) ?_
                          refine xthen_normal ?_
                          refine xc_cond_f rfl ?_
                          refine xc_skip ?_
                          refine xthen_normal ?_
                          exact ⟨(), ⟨rfl, rfl, rfl, rfl, rfl, rfl, rfl, trivial⟩, ⟨⟨by omega, by omega, fun h => ⟨by omega, by omega⟩⟩, hi9_27, mp, mg, m6_3, hm, hL, hX⟩⟩
                        · skip
                          refine xp_pure (i := 28) rfl (by kernel_rfl) (by kernel_rfl) rfl rfl rfl (pv_not rfl rfl) ?_
                          refine xp_pure (i := 29) rfl (by kernel_rfl) (by kernel_rfl) rfl rfl rfl (pv_pick_f (v := .bool _) rfl rfl rfl) ?_
                          refine xp_done (by kernel_rfl) ?_
                          refine xthen_normal ?_
                          refine xc_cond_t rfl ?_
                          refine xc_seq ?_
                          refine xc_region ?_
                          refine xl_pure rfl rfl rfl (pv_assign (v := .pointer _) rfl rfl) ?_
                          refine xl_pure rfl rfl rfl (pv_assign (v := .int _ _) rfl rfl) ?_
                          refine xl_nil ?_
                          refine xthen_normal ?_
                          refine xc_ret ?_
                          refine xthen_ret ?_
                          refine xblock_ret ?_
                          refine xthen_ret ?_
                          refine xthen_ret ?_
                          refine xblock_ret ?_
                          refine xthen_ret ?_
                          refine fin_ret (res2 (v := .pointer _) (x := .int _ _) rfl rfl rfl) ?_
                          first
                            | exact ⟨.inr ⟨fun h => hi9_27 (h.at_ k hkE).2, rfl⟩, hX⟩
                            | exact ⟨.inr ⟨fun h => by obtain ⟨⟨p1, p2, p3⟩, p4⟩ := h.at_ k hkE; rcases Nat.eq_zero_or_pos (gE E k).wt.length with h0 | h0; omega; have := p3 h0; omega, rfl⟩, hX⟩
                      · skip
                        refine xp_pure (i := 19) rfl (by kernel_rfl) (by kernel_rfl) rfl rfl rfl (pv_move (v := .bool _) rfl rfl) ?_
                        refine xp_skip (i := 20) rfl (by kernel_rfl) (by kernel_rfl) rfl rfl rfl ?_
                        refine xp_skip (i := 21) rfl (by kernel_rfl) (by kernel_rfl) rfl rfl rfl ?_
                        refine xp_pure (i := 22) rfl (by kernel_rfl) (by kernel_rfl) rfl rfl rfl (pv_pick_f (v := .bool _) rfl rfl rfl) ?_
                        refine xp_pure (i := 23) rfl (by kernel_rfl) (by kernel_rfl) rfl rfl rfl (pv_pick_f (v := .bool _) rfl rfl rfl) ?_
                        refine xp_pure (i := 24) rfl (by kernel_rfl) (by kernel_rfl) rfl rfl rfl (pv_move (v := .bool _) rfl rfl) ?_
                        refine xp_pure (i := 25) rfl (by kernel_rfl) (by kernel_rfl) rfl rfl rfl (pv_fieldAddr rfl rfl) ?_
                        refine xp_light (i := 26) rfl (by kernel_rfl) (by kernel_rfl) rfl rfl rfl (lv_load (v := .slice _ _ _) rfl rfl (ld_blk m6_3 rfl)) ?_
                        refine xp_heavy (i := 27) (by kernel_rfl) ?_
                        refine xph_val rfl rfl rfl rfl (hv_call (g := 37) rfl rfl (sorted (((hE.get hkE).1.ints).ext hX) hes1) rfl) (pd (by kernel_rfl) (pk (by kernel_rfl) (pk (by kernel_rfl) (pk (by kernel_rfl) (pk (by kernel_rfl) pn))))) ?_
                        rintro v9_27 H9_27 ⟨hv9_27, rfl⟩
                        refine ⟨(okc (lv_load (v := .slice _ _ _) rfl rfl (ld_blk m6_3 rfl)) (okc (lv_load (v := .slice _ _ _) rfl rfl (ld_blk m6_3 rfl)) (okc (lv_load (v := .int _ _) rfl rfl (by exact ldE mg hkT 0 rfl)) (okc (lv_load (v := .slice _ _ _) rfl rfl (ld_blk m6_3 rfl)) okn)))), ?_⟩
                        rcases hv9_27 with ⟨hi9_27, rfl⟩ | ⟨hi9_27, rfl⟩
                        · skip
                          refine xp_pure (i := 28) rfl (by kernel_rfl) (by kernel_rfl) rfl rfl rfl (pv_not rfl rfl) ?_
                          refine xp_pure (i := 29) rfl (by kernel_rfl) (by kernel_rfl) rfl rfl rfl (pv_pick_f (v := .bool _) rfl rfl rfl) ?_
                          refine xp_done (by kernel_rfl) ?_
                          refine xthen_normal ?_
                          refine xc_cond_f rfl ?_
                          refine xc_skip ?_
                          refine xthen_normal ?_
                          exact ⟨(), ⟨rfl, rfl, rfl, rfl, rfl, rfl, rfl, trivial⟩, ⟨⟨by omega, by omega, fun h => ⟨by omega, by omega⟩⟩, hi9_27, mp, mg, m6_3, hm, hL, hX⟩⟩
                        · skip
                          refine xp_pure (i := 28) rfl (by kernel_rfl) (by kernel_rfl) rfl rfl rfl (pv_not rfl rfl) ?_
                          refine xp_pure (i := 29) rfl (by kernel_rfl) (by kernel_rfl) rfl rfl rfl (pv_pick_f (v := .bool _) rfl rfl rfl) ?_
                          refine xp_done (by kernel_rfl) ?_
                          refine xthen_normal ?_
                          refine xc_cond_t rfl ?_
                          refine xc_seq ?_
                          refine xc_region ?_
                          refine xl_pure rfl rfl rfl (pv_assign (v := .pointer _) rfl rfl) ?_
                          refine xl_pure rfl rfl rfl (pv_assign (v := .int _ _) rfl rfl) ?_
                          refine xl_nil ?_
                          refine xthen_normal ?_
                          refine xc_ret ?_
                          refine xthen_ret ?_
                          refine xblock_ret ?_
                          refine xthen_ret ?_
                          refine xthen_ret ?_
                          refine xblock_ret ?_
                          refine xthen_ret ?_
                          refine fin_ret (res2 (v := .pointer _) (x := .int _ _) rfl rfl rfl) ?_
                          first
                            | exact ⟨.inr ⟨fun h => hi9_27 (h.at_ k hkE).2, rfl⟩, hX⟩
                            | exact ⟨.inr ⟨fun h => by obtain ⟨⟨p1, p2, p3⟩, p4⟩ := h.at_ k hkE; rcases Nat.eq_zero_or_pos (gE E k).wt.length with h0 | h0; omega; have := p3 h0; omega, rfl⟩, hX⟩
                · intro σ
                  clear hX mp hm hL mg m6_3
                  rintro t Hm9 ⟨hlk, hso, mp, mg, m6_3, hm, hL, hX⟩
                  replace hlk : lnOk ((sls l).getD k 0) (gE E k).rn (gE E k).wt := hlk
                  replace hso : SrtI (gE E k).rn (gE E k).rn.length := hso
                  replace mp : Blk Hm9 bp [.slice va E.length vc, .map (some m)] 52 := mp
                  replace mg : Blk Hm9 gb (fE T ++ ex) 69 := mg
                  replace m6_3 : Blk Hm9 b6_3 [.slice (gE E k).ra (gE E k).rn.length (gE E k).rc, .slice (gE E k).wa (gE E k).wt.length (gE E k).wc] 40 := m6_3
                  replace hm : MapI Hm9 m g := hm
                  replace hL : LS Hm9 (fun j => H.size ≤ j) T := hL
                  replace hX : Ext H Hm9 := hX
                  show XC _ _ _ (upds σ [(6, .pointer (some ⟨bp, 0, none⟩)), (8, .int .i64 (k : Nat)), (9, .pointer (some ⟨b6_3, 0, none⟩)), (10, .pointer (some ⟨gb, 0 + k * 3, none⟩)), (33, .slice xa E.length xc), (34, .int .i64 (E.length : Nat)), (35, .int .i64 (k : Nat))]) _
                  refine xc_seq ?_
                  refine xc_seq ?_
                  refine xp_start rfl (by repeat (first | with_reducible exact np_fin | with_reducible exact np_ret | with_reducible refine np_then ?_ | with_reducible refine np_block ?_)) (by kernel_rfl) ?_
                  refine xp_pure (i := 0) rfl (by kernel_rfl) (by kernel_rfl) rfl rfl rfl (pv_fieldAddr rfl rfl) ?_
                  refine xp_light (i := 1) rfl (by kernel_rfl) (by kernel_rfl) rfl rfl rfl (lv_load (v := .slice _ _ _) rfl rfl (ld_blk m6_3 rfl)) ?_
                  refine xp_pure (i := 3) rfl (by kernel_rfl) (by kernel_rfl) rfl rfl rfl (pv_fieldAddr rfl rfl) ?_
                  refine xp_light (i := 4) rfl (by kernel_rfl) (by kernel_rfl) rfl rfl rfl (lv_load (v := .slice _ _ _) rfl rfl (ld_blk m6_3 rfl)) ?_
                  refine xp_pure (i := 7) rfl (by kernel_rfl) (by kernel_rfl) rfl rfl rfl (pv_move (v := .int _ _) rfl rfl) ?_
                  refine xp_heavy (i := 2) (by kernel_rfl) ?_
                  refine xph_val rfl rfl rfl rfl (hv_call (g := 28) rfl rfl (cloneK rfl (((hE.get hkE).1.ints).ext hX) hes1) rfl) (pk (by kernel_rfl) (pd (by kernel_rfl) pn)) ?_
                  rintro v11_2 H11_2 ⟨a11_2, c11_2, rfl, hI11_2, hB11_2, hE11_2⟩
                  have hlt2 : ∀ k w j, k < T.length → bk (adE (gE T k) w) j → j < _ := fun k w j hk hj => (hL.io k hk w).lt hj
                  have hge11_2 := hX.size
                  have mp := mp.ext hE11_2
                  have mg := mg.ext hE11_2
                  have m6_3 := m6_3.ext hE11_2
                  have hm := hm.ext hE11_2
                  have hL := hL.ext hE11_2
                  have hX := hX.trans hE11_2
                  refine ⟨(okc (lv_load (v := .slice _ _ _) rfl rfl (ld_blk m6_3 rfl)) okn), ?_⟩
                  refine xp_heavy (i := 5) (by kernel_rfl) ?_
                  refine xph_val rfl rfl rfl rfl (hv_append_cells (size := 1) (news := ints (gE E k).wt) rfl rfl hI11_2 rfl (ints_len1 _) (ints_src (((hE.get hkE).2.ints).ext hX)) (ints_one1 _) rfl (by decide) (by omega) (by omega) (Nat.zero_le _)) (pd (by kernel_rfl) pn) ?_
                  rintro v11_5 H11_5 ⟨hO11_5, hG11_5⟩
                  have hK := gr_keep hG11_5
                  have hmo := io_mapoff hI11_2 hm
                  have hL := hL.keep hK (fun j hj k w hk h => by have := hlt2 k w j hk h; have := hB11_2 j hj; omega)
                  have hX := hX.keep hK (fun i h => Nat.le_trans hge11_2 (hB11_2 i h))
                  have hm := hm.keep hK hmo
                  have mp := mp.keep hK (hI11_2.noty mp rfl)
                  have mg := mg.keep hK (hI11_2.noty mg rfl)
                  have m6_3 := m6_3.keep hK (hI11_2.noty m6_3 rfl)
                  obtain ⟨a11_5, c11_5, rfl⟩ := hO11_5.val
                  have hq := own_as hO11_5 jl_cat
                  refine ⟨okn, ?_⟩
                  refine xp_pure (i := 6) rfl (by kernel_rfl) (by kernel_rfl) rfl rfl rfl (pv_len_l rfl rfl) ?_
                  refine xp_done (by kernel_rfl) ?_
                  refine xthen_normal ?_
                  refine xc_block ?_
                  refine xc_loop (τ := Nat × Fn) (fun t => [(6, .pointer (some ⟨bp, 0, none⟩)), (8, .int .i64 (k : Nat)), (9, .pointer (some ⟨b6_3, 0, none⟩)), (10, .pointer (some ⟨gb, 0 + k * 3, none⟩)), (33, .slice xa E.length xc), (34, .int .i64 (E.length : Nat)), (35, .int .i64 (k : Nat)), (96, .slice a11_5 ((gE E k).rn.length + (gE E k).wt.length) c11_5), (97, .int .i64 (((gE E k).rn.length + (gE E k).wt.length) : Nat)), (98, .int .i64 (t.1 : Nat))]) (fun t H' => (t.1 ≤ ((gE E k).rn.length + (gE E k).wt.length)) ∧ (LdG l E k t.1) ∧ (CG E k ((jlE (gE E k)).take t.1) t.2) ∧ (Blk H' bp [.slice va E.length vc, .map (some m)] 52) ∧ (Blk H' gb (fE T ++ ex) 69) ∧ (Blk H' b6_3 [.slice (gE E k).ra (gE E k).rn.length (gE E k).rc, .slice (gE E k).wa (gE E k).wt.length (gE E k).wc] 40) ∧ (MapI H' m t.2) ∧ (LS H' (fun j => H.size ≤ j) T) ∧ (Own H' 0 3 1 (.slice a11_5 ((gE E k).rn.length + (gE E k).wt.length) c11_5) ((gE E k).rn.length + (gE E k).wt.length) (ints (jlE (gE E k)))) ∧ (Ext H H')) (fun t H' => ((gE E k).rn.length + (gE E k).wt.length) - t.1) (0, g) ?_ ?_ ?_
                  · exact ⟨rfl, rfl, rfl, rfl, rfl, rfl, rfl, rfl, rfl, rfl, trivial⟩
                  · skip
                    exact ⟨Nat.zero_le _, hg, by rw [List.take_zero]; exact hcg, mp, mg, m6_3, hm, hL, hq, hX⟩
                  · intro σ
                    clear hX mp hm hL mg m6_3 hq hg hcg
                    rintro ⟨i, g⟩ Hl12 ⟨hi, hg, hcg, mp, mg, m6_3, hm, hL, hq, hX⟩
                    replace hi : i ≤ ((gE E k).rn.length + (gE E k).wt.length) := hi
                    replace hg : LdG l E k i := hg
                    replace hcg : CG E k ((jlE (gE E k)).take i) g := hcg
                    replace mp : Blk Hl12 bp [.slice va E.length vc, .map (some m)] 52 := mp
                    replace mg : Blk Hl12 gb (fE T ++ ex) 69 := mg
                    replace m6_3 : Blk Hl12 b6_3 [.slice (gE E k).ra (gE E k).rn.length (gE E k).rc, .slice (gE E k).wa (gE E k).wt.length (gE E k).wc] 40 := m6_3
                    replace hm : MapI Hl12 m g := hm
                    replace hL : LS Hl12 (fun j => H.size ≤ j) T := hL
                    replace hq : Own Hl12 0 3 1 (.slice a11_5 ((gE E k).rn.length + (gE E k).wt.length) c11_5) ((gE E k).rn.length + (gE E k).wt.length) (ints (jlE (gE E k))) := hq
                    replace hX : Ext H Hl12 := hX
                    show XC _ _ _ (upds σ [(6, .pointer (some ⟨bp, 0, none⟩)), (8, .int .i64 (k : Nat)), (9, .pointer (some ⟨b6_3, 0, none⟩)), (10, .pointer (some ⟨gb, 0 + k * 3, none⟩)), (33, .slice xa E.length xc), (34, .int .i64 (E.length : Nat)), (35, .int .i64 (k : Nat)), (96, .slice a11_5 ((gE E k).rn.length + (gE E k).wt.length) c11_5), (97, .int .i64 (((gE E k).rn.length + (gE E k).wt.length) : Nat)), (98, .int .i64 (i : Nat))]) _
                    refine xc_seq ?_
                    refine xc_region ?_
                    refine xl_dec rfl rfl rfl (pv_lss rfl rfl rfl) (fun h12_0 => ?_) (fun h12_0 => ?_)
                    · skip
                      refine xl_nil ?_
                      refine xthen_normal ?_
                      refine xc_seq ?_
                      refine xc_cond_t rfl ?_
                      refine xc_skip ?_
                      refine xthen_normal ?_
                      refine xc_seq ?_
                      refine xc_block ?_
                      refine xc_seq ?_
                      obtain ⟨gq, oq, hdq⟩ := (own_Ints hq).at'
                      refine xc_region ?_
                      refine xl_pure rfl rfl rfl (pv_indexAddr_l rfl (sl_eq (hdq (by omega)).1) rfl (by omega)) ?_
                      refine xl_light rfl rfl rfl (lv_load (v := .int _ _) rfl rfl (by exact ld_nth (k := i) (hdq (by omega)).2 (by omega))) ?_
                      refine xl_pure rfl rfl rfl (pv_assign (v := .int _ _) rfl rfl) ?_
                      refine xl_nil ?_
                      refine xthen_normal ?_
                      refine xc_seq ?_
                      refine xc_seq ?_
                      refine xc_region ?_
                      refine xl_pure rfl rfl rfl (pv_move (v := .pointer _) rfl rfl) ?_
                      refine xl_pure rfl rfl rfl (pv_nilCheck_p rfl rfl) ?_
                      refine xl_pure rfl rfl rfl (pv_fieldAddr rfl rfl) ?_
                      refine xl_light rfl rfl rfl (lv_load (v := .map _) rfl rfl (ld_blk mp rfl)) ?_
                      refine xl_pure rfl rfl rfl (pv_move (v := .int _ _) rfl rfl) ?_
                      rcases hof : g ((jlE (gE E k)).getD i 0) with _ | r
                      · skip
                        refine xl_light rfl rfl rfl (lv_lookI_n rfl rfl rfl hm hof) ?_
                        refine xl_pure rfl rfl rfl (pv_move (v := .tuple _) rfl rfl) ?_
                        refine xl_pure rfl rfl rfl (pv_extract (v := .int _ _) rfl rfl rfl) ?_
                        refine xl_pure rfl rfl rfl (pv_extract (v := .bool _) rfl rfl rfl) ?_
                        refine xl_pure rfl rfl rfl (pv_assign (v := .int _ _) rfl rfl) ?_
                        refine xl_pure rfl rfl rfl (pv_assign (v := .bool _) rfl rfl) ?_
                        refine xl_nil ?_
                        refine xthen_normal ?_
                        refine xc_seq ?_
                        refine xc_region ?_
                        refine xl_pure rfl rfl rfl (pv_move (v := .bool _) rfl rfl) ?_
                        refine xl_pure rfl rfl rfl (pv_move (v := .bool _) rfl rfl) ?_
                        refine xl_pure rfl rfl rfl (pv_move (v := .int _ _) rfl rfl) ?_
                        refine xl_heavy rfl rfl rfl (hv_call (g := 22) rfl rfl (isJob ((jlE (gE E k)).getD i 0)) rfl) ?_
                        rintro v15_3 H15_3 ⟨hv15_3, rfl⟩
                        rcases hv15_3 with ⟨hi15_3, rfl⟩ | ⟨hi15_3, rfl⟩
                        · skip
                          refine xl_pure rfl rfl rfl (pv_not rfl rfl) ?_
                          refine xl_pure rfl rfl rfl (pv_pick_f (v := .bool _) rfl rfl rfl) ?_
                          refine xl_nil ?_
                          refine xthen_normal ?_
                          refine xc_cond_f rfl ?_
                          refine xc_skip ?_
                          refine xthen_normal ?_
                          refine xc_region ?_
                          refine xl_pure rfl rfl rfl (pv_move (v := .pointer _) rfl rfl) ?_
                          refine xl_pure rfl rfl rfl (pv_nilCheck_p rfl rfl) ?_
                          refine xl_pure rfl rfl rfl (pv_fieldAddr rfl rfl) ?_
                          refine xl_light rfl rfl rfl (lv_load (v := .map _) rfl rfl (ld_blk mp rfl)) ?_
                          refine xl_pure rfl rfl rfl (pv_move (v := .int _ _) rfl rfl) ?_
                          refine xl_pure rfl rfl rfl (pv_move (v := .int _ _) rfl rfl) ?_
                          refine xl_store rfl rfl (hv_putI rfl rfl rfl rfl hm) ?_
                          rintro v17_6 H17_6 ⟨hm17_6, hU17_6⟩
                          have mp := mp.but hU17_6 (hm.blk mp).ne
                          have mg := mg.but hU17_6 (hm.blk mg).ne
                          have m6_3 := m6_3.but hU17_6 (hm.blk m6_3).ne
                          have hq := own_offI hq hm hU17_6
                          have hL := hL.offI hm hU17_6
                          have hX := hX.upd hU17_6 ⟨hGm.1⟩
                          have hm := hm17_6
                          refine xl_nil ?_
                          refine xblock_normal ?_
                          refine xthen_normal ?_
                          refine xc_region ?_
                          refine xl_pure rfl rfl rfl (pv_add rfl rfl rfl (fit_i64 (by omega))) ?_
                          refine xl_pure rfl rfl rfl (pv_move (v := .int _ _) rfl rfl) ?_
                          refine xl_nil ?_
                          refine xthen_normal ?_
                          exact ⟨(i + 1, _), ⟨rfl, rfl, rfl, rfl, rfl, rfl, rfl, rfl, rfl, rfl, trivial⟩, ⟨by (try simp only); omega, hg.step (by omega) hi15_3 (fun h => by obtain ⟨r, hr⟩ := (cg_mem hcg hkE).2 h; rw [hof] at hr; cases hr), by rw [take_gd (by omega)]; exact hcg.put2 (fun r hr => by rw [hof] at hr; cases hr), mp, mg, m6_3, hm, hL, hq, hX⟩, by (try simp only); omega⟩
                        · skip
                          refine xl_pure rfl rfl rfl (pv_not rfl rfl) ?_
                          refine xl_pure rfl rfl rfl (pv_pick_f (v := .bool _) rfl rfl rfl) ?_
                          refine xl_nil ?_
                          refine xthen_normal ?_
                          refine xc_cond_t rfl ?_
                          refine xc_seq ?_
                          refine xc_region ?_
                          refine xl_pure rfl rfl rfl (pv_assign (v := .pointer _) rfl rfl) ?_
                          refine xl_pure rfl rfl rfl (pv_assign (v := .int _ _) rfl rfl) ?_
                          refine xl_nil ?_
                          refine xthen_normal ?_
                          refine xc_ret ?_
                          refine xthen_ret ?_
                          refine xblock_ret ?_
                          refine xthen_ret ?_
                          refine xthen_ret ?_
                          refine xblock_ret ?_
                          refine xthen_ret ?_
                          refine xblock_ret ?_
                          refine xthen_ret ?_
                          refine xthen_ret ?_
                          refine xblock_ret ?_
                          refine xthen_ret ?_
                          refine fin_ret (res2 (v := .pointer _) (x := .int _ _) rfl rfl rfl) ?_
                          refine ⟨.inr ⟨fun h => ?_, rfl⟩, hX⟩
                          have hn := h.new hkE (i := i) (by omega)
                          first
                            | exact hn.2 ((cg_mem hcg hkE).1 ⟨_, hof⟩)
                            | exact hi15_3 hn.1
                      · skip
                        refine xl_light rfl rfl rfl (lv_lookI_s rfl rfl rfl hm hof) ?_
                        refine xl_pure rfl rfl rfl (pv_move (v := .tuple _) rfl rfl) ?_
                        refine xl_pure rfl rfl rfl (pv_extract (v := .int _ _) rfl rfl rfl) ?_
                        refine xl_pure rfl rfl rfl (pv_extract (v := .bool _) rfl rfl rfl) ?_
                        refine xl_pure rfl rfl rfl (pv_assign (v := .int _ _) rfl rfl) ?_
                        refine xl_pure rfl rfl rfl (pv_assign (v := .bool _) rfl rfl) ?_
                        refine xl_nil ?_
                        refine xthen_normal ?_
                        refine xc_seq ?_
                        refine xc_region ?_
                        refine xl_pure rfl rfl rfl (pv_move (v := .bool _) rfl rfl) ?_
                        refine xl_pure rfl rfl rfl (pv_move (v := .bool _) rfl rfl) ?_
                        refine xl_skip rfl rfl rfl ?_
                        refine xl_skip rfl rfl rfl ?_
                        refine xl_skip rfl rfl rfl ?_
                        refine xl_pure rfl rfl rfl (pv_pick_t (v := .bool _) rfl rfl rfl) ?_
                        refine xl_nil ?_
                        refine xthen_normal ?_
                        refine xc_cond_t rfl ?_
                        refine xc_seq ?_
                        refine xc_region ?_
                        refine xl_pure rfl rfl rfl (pv_assign (v := .pointer _) rfl rfl) ?_
                        refine xl_pure rfl rfl rfl (pv_assign (v := .int _ _) rfl rfl) ?_
                        refine xl_nil ?_
                        refine xthen_normal ?_
                        refine xc_ret ?_
                        refine xthen_ret ?_
                        refine xblock_ret ?_
                        refine xthen_ret ?_
                        refine xthen_ret ?_
                        refine xblock_ret ?_
                        refine xthen_ret ?_
                        refine xblock_ret ?_
                        refine xthen_ret ?_
                        refine xthen_ret ?_
                        refine xblock_ret ?_
                        refine xthen_ret ?_
                        refine fin_ret (res2 (v := .pointer _) (x := .int _ _) rfl rfl rfl) ?_
                        refine ⟨.inr ⟨fun h => ?_, rfl⟩, hX⟩
                        have hn := h.new hkE (i := i) (by omega)
                        first
                          | exact hn.2 ((cg_mem hcg hkE).1 ⟨_, hof⟩)
                          | exact hi15_3 hn.1
                    · skip
                      refine xl_nil ?_
                      refine xthen_normal ?_
                      refine xc_seq ?_
                      refine xc_cond_f rfl ?_
                      refine xc_exit ?_
                      refine xthen_exit ?_
                      refine xthen_exit ?_
                      refine xblock_same ?_
                      refine xthen_normal ?_
                      refine xp_start rfl (by repeat (first | with_reducible exact np_fin | with_reducible exact np_ret | with_reducible refine np_then ?_ | with_reducible refine np_block ?_)) (by kernel_rfl) ?_
                      refine xp_pure (i := 0) rfl (by kernel_rfl) (by kernel_rfl) rfl rfl rfl (pv_move (v := .pointer _) rfl rfl) ?_
                      refine xp_pure (i := 1) rfl (by kernel_rfl) (by kernel_rfl) rfl rfl rfl (pv_move (v := .pointer _) rfl rfl) ?_
                      refine xp_pure (i := 2) rfl (by kernel_rfl) (by kernel_rfl) rfl rfl rfl (pv_fieldAddr rfl rfl) ?_
                      refine xp_light (i := 3) rfl (by kernel_rfl) (by kernel_rfl) rfl rfl rfl (lv_load (v := .slice _ _ _) rfl rfl (ld_blk m6_3 rfl)) ?_
                      refine xp_pure (i := 5) rfl (by kernel_rfl) (by kernel_rfl) rfl rfl rfl (pv_fieldAddr rfl rfl) ?_
                      refine xp_light (i := 6) rfl (by kernel_rfl) (by kernel_rfl) rfl rfl rfl (lv_load (v := .slice _ _ _) rfl rfl (ld_blk m6_3 rfl)) ?_
                      refine xp_heavy (i := 4) (by kernel_rfl) ?_
                      refine xph_val rfl rfl rfl rfl (hv_call (g := 28) rfl rfl (cloneK rfl (((hE.get hkE).1.ints).ext hX) hes1) rfl) (pk (by kernel_rfl) (pd (by kernel_rfl) pn)) ?_
                      rintro v19_4 H19_4 ⟨a19_4, c19_4, rfl, hI19_4, hB19_4, hE19_4⟩
                      have hL9 := hL
                      have hgo := hL.off mg rfl
                      have hgs := hX.size
                      have hkf := (KeepF.refl (fun j => j = gb) _).transE hE19_4
                      have mp := mp.ext hE19_4
                      have mg := mg.ext hE19_4
                      have m6_3 := m6_3.ext hE19_4
                      have hm := hm.ext hE19_4
                      have hX := hX.trans hE19_4
                      refine ⟨(okc (lv_load (v := .slice _ _ _) rfl rfl (ld_blk m6_3 rfl)) okn), ?_⟩
                      refine xp_heavy (i := 7) (by kernel_rfl) ?_
                      refine xph_val rfl rfl rfl rfl (hv_call (g := 28) rfl rfl (cloneK rfl (((hE.get hkE).2.ints).ext hX) hes2) rfl) (pd (by kernel_rfl) pn) ?_
                      rintro v19_7 H19_7 ⟨a19_7, c19_7, rfl, hI19_7, hB19_7, hE19_7⟩
                      have hr1 : ∀ j, bk a19_4 j → j < _ := fun j hj => hI19_4.lt hj
                      have hkf := hkf.transE hE19_7
                      have hI19_4 := hI19_4.ext hE19_7
                      have mp := mp.ext hE19_7
                      have mg := mg.ext hE19_7
                      have m6_3 := m6_3.ext hE19_7
                      have hm := hm.ext hE19_7
                      have hX := hX.trans hE19_7
                      refine ⟨okn, ?_⟩
                      refine xp_pure (i := 8) rfl (by kernel_rfl) (by kernel_rfl) rfl rfl rfl (pv_nilCheck_p rfl rfl) ?_
                      refine xp_pure (i := 9) rfl (by kernel_rfl) (by kernel_rfl) rfl rfl rfl (pv_fieldAddr rfl rfl) ?_
                      refine xp_heavy (i := 10) (by kernel_rfl) ?_
                      refine xph_store rfl rfl rfl (hv_store (vs := [.slice a19_4 (gE E k).rn.length c19_4]) rfl rfl rfl mg rfl (by show 0 + k * 3 + 1 + 1 ≤ _; omega) rfl) pn ?_
                      rintro v19_10 H19_10 ⟨hU19_10, hZ19_10⟩
                      have mp := mp.but hU19_10.but (mp.ne mg rfl)
                      have m6_3 := m6_3.but hU19_10.but (m6_3.ne mg rfl)
                      have hm := hm.off hU19_10.but (Apart.symm (hm.blk mg))
                      have hI19_4 := hI19_4.but hU19_10.but (hI19_4.noty mg rfl)
                      have hI19_7 := hI19_7.but hU19_10.but (hI19_7.noty mg rfl)
                      have hX := hX.upd hU19_10.but ⟨hgb0⟩
                      have hkf := hkf.own hU19_10.but rfl
                      have mg := hU19_10.blk
                      refine ⟨okn, ?_⟩
                      refine xp_pure (i := 11) rfl (by kernel_rfl) (by kernel_rfl) rfl rfl rfl (pv_nilCheck_p rfl rfl) ?_
                      refine xp_pure (i := 12) rfl (by kernel_rfl) (by kernel_rfl) rfl rfl rfl (pv_fieldAddr rfl rfl) ?_
                      refine xp_heavy (i := 13) (by kernel_rfl) ?_
                      refine xph_store rfl rfl rfl (hv_store (vs := [.slice a19_7 (gE E k).wt.length c19_7]) rfl rfl rfl mg rfl (by rw [setRange_length]; show 0 + k * 3 + 2 + 1 ≤ _; omega) rfl) pn ?_
                      rintro v19_13 H19_13 ⟨hU19_13, hZ19_13⟩
                      have mp := mp.but hU19_13.but (mp.ne mg rfl)
                      have m6_3 := m6_3.but hU19_13.but (m6_3.ne mg rfl)
                      have hm := hm.off hU19_13.but (Apart.symm (hm.blk mg))
                      have hI19_4 := hI19_4.but hU19_13.but (hI19_4.noty mg rfl)
                      have hI19_7 := hI19_7.but hU19_13.but (hI19_7.noty mg rfl)
                      have hX := hX.upd hU19_13.but ⟨hgb0⟩
                      have hkf := hkf.own hU19_13.but rfl
                      have mg := hU19_13.blk
                      have mg2 := mg_as mg (set2_cells (a1 := a19_4) (l1 := (gE E k).rn) (c1 := c19_4) (a2 := a19_7) (l2 := (gE E k).wt) (c2 := c19_7) hkT)
                      have hL := LS.set2 hL9 hkT hkf hgo hI19_4 hI19_7 hB19_4 (fun j hj => Nat.le_trans hE19_4.size (hB19_7 j hj)) (fun j h1 h2 => by have := hr1 j h1; have := hB19_7 j h2; omega) (fun j hj => Nat.le_trans hgs hj)
                      refine ⟨okn, ?_⟩
                      refine xp_done (by kernel_rfl) ?_
                      refine xblock_normal ?_
                      refine xthen_normal ?_
                      refine xc_region ?_
                      refine xl_pure rfl rfl rfl (pv_add rfl rfl rfl (fit_i64 (by omega))) ?_
                      refine xl_pure rfl rfl rfl (pv_move (v := .int _ _) rfl rfl) ?_
                      refine xl_nil ?_
                      refine xthen_normal ?_
                      exact ⟨(k + 1, T.set k (sE (gE T k) (gE E k).rn a19_4 c19_4 (gE E k).wt a19_7 c19_7), g), ⟨rfl, rfl, rfl, rfl, trivial⟩, ⟨by (try simp only); omega, hTP.next hkT, hg.done hkE (by omega) (by have h1 := hlk.1; have h2 := hlk.2.1; omega) hlk hso, hcg.next (List.take_of_length_le (by omega)), mp, by rw [hae]; exact own_mk mg2 (Nat.zero_le _) (by rw [fE_len, List.length_set]; omega) (by rw [List.length_append, fE_len, List.length_set, ← fE_len, ← List.length_append]; exact hexl) hnc hcm, hm, hL, hX⟩, by (try simp only); omega⟩
              · skip
                refine xp_pure (i := 14) rfl (by kernel_rfl) (by kernel_rfl) rfl rfl rfl (pv_pick_t (v := .bool _) rfl rfl rfl) ?_
                refine xp_pure (i := 15) rfl (by kernel_rfl) (by kernel_rfl) rfl rfl rfl (pv_assign (v := .bool _) rfl rfl) ?_
                refine xp_done (by kernel_rfl) ?_
                refine xthen_normal ?_
                refine xc_cut (τ := Unit) (fun t => [(6, .pointer (some ⟨bp, 0, none⟩)), (8, .int .i64 (k : Nat)), (9, .pointer (some ⟨b6_3, 0, none⟩)), (10, .pointer (some ⟨gb, 0 + k * 3, none⟩)), (33, .slice xa E.length xc), (34, .int .i64 (E.length : Nat)), (35, .int .i64 (k : Nat))]) (fun t H' => (lnOk ((sls l).getD k 0) (gE E k).rn (gE E k).wt) ∧ (SrtI (gE E k).rn (gE E k).rn.length) ∧ (Blk H' bp [.slice va E.length vc, .map (some m)] 52) ∧ (Blk H' gb (fE T ++ ex) 69) ∧ (Blk H' b6_3 [.slice (gE E k).ra (gE E k).rn.length (gE E k).rc, .slice (gE E k).wa (gE E k).wt.length (gE E k).wc] 40) ∧ (MapI H' m g) ∧ (LS H' (fun j => H.size ≤ j) T) ∧ (Ext H H')) ?_ ?_
                · skip
                  refine xc_seq ?_
                  refine xp_start rfl (by repeat (first | with_reducible exact np_fin | with_reducible exact np_ret | with_reducible refine np_then ?_ | with_reducible refine np_block ?_)) (by kernel_rfl) ?_
                  refine xp_pure (i := 0) rfl (by kernel_rfl) (by kernel_rfl) rfl rfl rfl (pv_fieldAddr rfl rfl) ?_
                  refine xp_light (i := 1) rfl (by kernel_rfl) (by kernel_rfl) rfl rfl rfl (lv_load (v := .slice _ _ _) rfl rfl (ld_blk m6_3 rfl)) ?_
                  refine xp_pure (i := 2) rfl (by kernel_rfl) (by kernel_rfl) rfl rfl rfl (pv_len_l rfl rfl) ?_
                  refine xp_pure (i := 3) rfl (by kernel_rfl) (by kernel_rfl) rfl rfl rfl (pv_move (v := .pointer _) rfl rfl) ?_
                  refine xp_pure (i := 4) rfl (by kernel_rfl) (by kernel_rfl) rfl rfl rfl (pv_nilCheck_p rfl rfl) ?_
                  refine xp_pure (i := 5) rfl (by kernel_rfl) (by kernel_rfl) rfl rfl rfl (pv_fieldAddr rfl rfl) ?_
                  refine xp_light (i := 6) rfl (by kernel_rfl) (by kernel_rfl) rfl rfl rfl (lv_load (v := .int _ _) rfl rfl (by exact ldE mg hkT 0 rfl)) ?_
                  refine xp_dec (i := 7) rfl (by kernel_rfl) (by kernel_rfl) rfl rfl rfl (pv_gtr rfl rfl rfl) (fun h9_7 => ?_) (fun h9_7 => ?_)
                  · skip
                    refine xp_pure (i := 8) rfl (by kernel_rfl) (by kernel_rfl) rfl rfl rfl (pv_move (v := .bool _) rfl rfl) ?_
                    refine xp_skip (i := 9) rfl (by kernel_rfl) (by kernel_rfl) rfl rfl rfl ?_
                    refine xp_skip (i := 10) rfl (by kernel_rfl) (by kernel_rfl) rfl rfl rfl ?_
                    refine xp_skip (i := 11) rfl (by kernel_rfl) (by kernel_rfl) rfl rfl rfl ?_
                    refine xp_skip (i := 12) rfl (by kernel_rfl) (by kernel_rfl) rfl rfl rfl ?_
                    refine xp_pure (i := 13) rfl (by kernel_rfl) (by kernel_rfl) rfl rfl rfl (pv_pick_t (v := .bool _) rfl rfl rfl) ?_
                    refine xp_pure (i := 14) rfl (by kernel_rfl) (by kernel_rfl) rfl rfl rfl (pv_move (v := .bool _) rfl rfl) ?_
                    refine xp_skip (i := 15) rfl (by kernel_rfl) (by kernel_rfl) rfl rfl rfl ?_
                    refine xp_skip (i := 16) rfl (by kernel_rfl) (by kernel_rfl) rfl rfl rfl ?_
                    refine xp_skip (i := 17) rfl (by kernel_rfl) (by kernel_rfl) rfl rfl rfl ?_
                    refine xp_skip (i := 18) rfl (by kernel_rfl) (by kernel_rfl) rfl rfl rfl ?_
                    refine xp_skip (i := 19) rfl (by kernel_rfl) (by kernel_rfl) rfl rfl rfl ?_
                    refine xp_skip (i := 20) rfl (by kernel_rfl) (by kernel_rfl) rfl rfl rfl ?_
                    refine xp_skip (i := 21) rfl (by kernel_rfl) (by kernel_rfl) rfl rfl rfl ?_
                    refine xp_skip (i := 22) rfl (by kernel_rfl) (by kernel_rfl) rfl rfl rfl ?_
                    refine xp_pure (i := 23) rfl (by kernel_rfl) (by kernel_rfl) rfl rfl rfl (pv_pick_t (v := .bool _) rfl rfl rfl) ?_
                    refine xp_pure (i := 24) rfl (by kernel_rfl) (by kernel_rfl) rfl rfl rfl (pv_move (v := .bool _) rfl rfl) ?_
                    refine xp_skip (i := 25) rfl (by kernel_rfl) (by kernel_rfl) rfl rfl rfl ?_
                    refine xp_skip (i := 26) rfl (by kernel_rfl) (by kernel_rfl) rfl rfl rfl ?_
                    refine xp_skip (i := 27) rfl (by kernel_rfl) (by kernel_rfl) rfl rfl rfl ?_
                    refine xp_skip (i := 28) rfl (by kernel_rfl) (by kernel_rfl) rfl rfl rfl ?_
                    refine xp_pure (i := 29) rfl (by kernel_rfl) (by kernel_rfl) rfl rfl rfl (pv_pick_t (v := .bool _) rfl rfl rfl) ?_
                    refine xp_done (by kernel_rfl) ?_
                    refine xthen_normal ?_
                    refine xc_cond_t rfl ?_
                    refine xc_seq ?_
                    refine xc_region ?_
                    refine xl_pure rfl rfl rfl (pv_assign (v := .pointer _) rfl rfl) ?_
                    refine xl_pure rfl rfl rfl (pv_assign (v := .int _ _) rfl rfl) ?_
                    refine xl_nil ?_
                    refine xthen_normal ?_
                    refine xc_ret ?_
                    refine xthen_ret ?_
                    refine xblock_ret ?_
                    refine xthen_ret ?_
                    refine xthen_ret ?_
                    refine xblock_ret ?_
                    refine xthen_ret ?_
                    refine fin_ret (res2 (v := .pointer _) (x := .int _ _) rfl rfl rfl) ?_
                    first
                      | exact ⟨.inr ⟨fun h => hi9_27 (h.at_ k hkE).2, rfl⟩, hX⟩
                      | exact ⟨.inr ⟨fun h => by obtain ⟨⟨p1, p2, p3⟩, p4⟩ := h.at_ k hkE; rcases Nat.eq_zero_or_pos (gE E k).wt.length with h0 | h0; omega; have := p3 h0; omega, rfl⟩, hX⟩
                  · skip
                    refine xp_pure (i := 8) rfl (by kernel_rfl) (by kernel_rfl) rfl rfl rfl (pv_move (v := .bool _) rfl rfl) ?_
                    refine xp_pure (i := 9) rfl (by kernel_rfl) (by kernel_rfl) rfl rfl rfl (pv_fieldAddr rfl rfl) ?_
                    refine xp_light (i := 10) rfl (by kernel_rfl) (by kernel_rfl) rfl rfl rfl (lv_load (v := .slice _ _ _) rfl rfl (ld_blk m6_3 rfl)) ?_
                    refine xp_pure (i := 11) rfl (by kernel_rfl) (by kernel_rfl) rfl rfl rfl (pv_len_l rfl rfl) ?_
                    refine xp_dec (i := 12) rfl (by kernel_rfl) (by kernel_rfl) rfl rfl rfl (pv_gtr rfl rfl rfl) (fun h9_12 => ?_) (fun h9_12 => ?_)
                    · skip
                      refine xp_pure (i := 13) rfl (by kernel_rfl) (by kernel_rfl) rfl rfl rfl (pv_pick_f (v := .bool _) rfl rfl rfl) ?_
                      refine xp_pure (i := 14) rfl (by kernel_rfl) (by kernel_rfl) rfl rfl rfl (pv_move (v := .bool _) rfl rfl) ?_
                      refine xp_skip (i := 15) rfl (by kernel_rfl) (by kernel_rfl) rfl rfl rfl ?_
                      refine xp_skip (i := 16) rfl (by kernel_rfl) (by kernel_rfl) rfl rfl rfl ?_
                      refine xp_skip (i := 17) rfl (by kernel_rfl) (by kernel_rfl) rfl rfl rfl ?_
                      refine xp_skip (i := 18) rfl (by kernel_rfl) (by kernel_rfl) rfl rfl rfl ?_
                      refine xp_skip (i := 19) rfl (by kernel_rfl) (by kernel_rfl) rfl rfl rfl ?_
                      refine xp_skip (i := 20) rfl (by kernel_rfl) (by kernel_rfl) rfl rfl rfl ?_
                      refine xp_skip (i := 21) rfl (by kernel_rfl) (by kernel_rfl) rfl rfl rfl ?_
                      refine xp_skip (i := 22) rfl (by kernel_rfl) (by kernel_rfl) rfl rfl rfl ?_
                      refine xp_pure (i := 23) rfl (by kernel_rfl) (by kernel_rfl) rfl rfl rfl (pv_pick_t (v := .bool _) rfl rfl rfl) ?_
                      refine xp_pure (i := 24) rfl (by kernel_rfl) (by kernel_rfl) rfl rfl rfl (pv_move (v := .bool _) rfl rfl) ?_
                      refine xp_skip (i := 25) rfl (by kernel_rfl) (by kernel_rfl) rfl rfl rfl ?_
                      refine xp_skip (i := 26) rfl (by kernel_rfl) (by kernel_rfl) rfl rfl rfl ?_
                      refine xp_skip (i := 27) rfl (by kernel_rfl) (by kernel_rfl) rfl rfl rfl ?_
                      refine xp_skip (i := 28) rfl (by kernel_rfl) (by kernel_rfl) rfl rfl rfl ?_
                      refine xp_pure (i := 29) rfl (by kernel_rfl) (by kernel_rfl) rfl rfl rfl (pv_pick_t (v := .bool _) rfl rfl rfl) ?_
                      refine xp_done (by kernel_rfl) ?_
                      refine xthen_normal ?_
                      refine xc_cond_t rfl ?_
                      refine xc_seq ?_
                      refine xc_region ?_
                      refine xl_pure rfl rfl rfl (pv_assign (v := .pointer _) rfl rfl) ?_
                      refine xl_pure rfl rfl rfl (pv_assign (v := .int _ _) rfl rfl) ?_
                      refine xl_nil ?_
                      refine xthen_normal ?_
                      refine xc_ret ?_
                      refine xthen_ret ?_
                      refine xblock_ret ?_
                      refine xthen_ret ?_
                      refine xthen_ret ?_
                      refine xblock_ret ?_
                      refine xthen_ret ?_
                      refine fin_ret (res2 (v := .pointer _) (x := .int _ _) rfl rfl rfl) ?_
                      first
                        | exact ⟨.inr ⟨fun h => hi9_27 (h.at_ k hkE).2, rfl⟩, hX⟩
                        | exact ⟨.inr ⟨fun h => by obtain ⟨⟨p1, p2, p3⟩, p4⟩ := h.at_ k hkE; rcases Nat.eq_zero_or_pos (gE E k).wt.length with h0 | h0; omega; have := p3 h0; omega, rfl⟩, hX⟩
                    · skip
                      refine xp_pure (i := 13) rfl (by kernel_rfl) (by kernel_rfl) rfl rfl rfl (pv_pick_f (v := .bool _) rfl rfl rfl) ?_
                      refine xp_pure (i := 14) rfl (by kernel_rfl) (by kernel_rfl) rfl rfl rfl (pv_move (v := .bool _) rfl rfl) ?_
                      refine xp_pure (i := 15) rfl (by kernel_rfl) (by kernel_rfl) rfl rfl rfl (pv_fieldAddr rfl rfl) ?_
                      refine xp_light (i := 16) rfl (by kernel_rfl) (by kernel_rfl) rfl rfl rfl (lv_load (v := .slice _ _ _) rfl rfl (ld_blk m6_3 rfl)) ?_
                      refine xp_pure (i := 17) rfl (by kernel_rfl) (by kernel_rfl) rfl rfl rfl (pv_len_l rfl rfl) ?_
                      refine xp_dec (i := 18) rfl (by kernel_rfl) (by kernel_rfl) rfl rfl rfl (pv_gtr rfl rfl rfl) (fun h9_18 => ?_) (fun h9_18 => ?_)
                      · skip
                        refine xp_pure (i := 19) rfl (by kernel_rfl) (by kernel_rfl) rfl rfl rfl (pv_move (v := .bool _) rfl rfl) ?_
                        refine xp_pure (i := 20) rfl (by kernel_rfl) (by kernel_rfl) rfl rfl rfl (pv_move (v := .bool _) rfl rfl) ?_
                        refine xp_pure (i := 21) rfl (by kernel_rfl) (by kernel_rfl) rfl rfl rfl (pv_not rfl rfl) ?_
                        refine xp_pure (i := 22) rfl (by kernel_rfl) (by kernel_rfl) rfl rfl rfl (pv_pick_t (v := .bool _) rfl rfl rfl) ?_
                        refine xp_pure (i := 23) rfl (by kernel_rfl) (by kernel_rfl) rfl rfl rfl (pv_pick_f (v := .bool _) rfl rfl rfl) ?_
                        refine xp_pure (i := 24) rfl (by kernel_rfl) (by kernel_rfl) rfl rfl rfl (pv_move (v := .bool _) rfl rfl) ?_
                        refine xp_skip (i := 25) rfl (by kernel_rfl) (by kernel_rfl) rfl rfl rfl ?_
                        refine xp_skip (i := 26) rfl (by kernel_rfl) (by kernel_rfl) rfl rfl rfl ?_
                        refine xp_skip (i := 27) rfl (by kernel_rfl) (by kernel_rfl) rfl rfl rfl ?_
                        refine xp_skip (i := 28) rfl (by kernel_rfl) (by kernel_rfl) rfl rfl rfl ?_
                        refine xp_pure (i := 29) rfl (by kernel_rfl) (by kernel_rfl) rfl rfl rfl (pv_pick_t (v := .bool _) rfl rfl rfl) ?_
                        refine xp_done (by kernel_rfl) ?_
                        refine xthen_normal ?_
                        refine xc_cond_t rfl ?_
                        refine xc_seq ?_
                        refine xc_region ?_
                        refine xl_pure rfl rfl rfl (pv_assign (v := .pointer _) rfl rfl) ?_
                        refine xl_pure rfl rfl rfl (pv_assign (v := .int _ _) rfl rfl) ?_
                        refine xl_nil ?_
                        refine xthen_normal ?_
                        refine xc_ret ?_
                        refine xthen_ret ?_
                        refine xblock_ret ?_
                        refine xthen_ret ?_
                        refine xthen_ret ?_
                        refine xblock_ret ?_
                        refine xthen_ret ?_
                        refine fin_ret (res2 (v := .pointer _) (x := .int _ _) rfl rfl rfl) ?_
                        first
                          | exact ⟨.inr ⟨fun h => hi9_27 (h.at_ k hkE).2, rfl⟩, hX⟩
                          | exact ⟨.inr ⟨fun h => by obtain ⟨⟨p1, p2, p3⟩, p4⟩ := h.at_ k hkE; rcases Nat.eq_zero_or_pos (gE E k).wt.length with h0 | h0; omega; have := p3 h0; omega, rfl⟩, hX⟩
                      · skip
                        refine xp_pure (i := 19) rfl (by kernel_rfl) (by kernel_rfl) rfl rfl rfl (pv_move (v := .bool _) rfl rfl) ?_
                        refine xp_skip (i := 20) rfl (by kernel_rfl) (by kernel_rfl) rfl rfl rfl ?_
                        refine xp_skip (i := 21) rfl (by kernel_rfl) (by kernel_rfl) rfl rfl rfl ?_
                        refine xp_pure (i := 22) rfl (by kernel_rfl) (by kernel_rfl) rfl rfl rfl (pv_pick_f (v := .bool _) rfl rfl rfl) ?_
                        refine xp_pure (i := 23) rfl (by kernel_rfl) (by kernel_rfl) rfl rfl rfl (pv_pick_f (v := .bool _) rfl rfl rfl) ?_
                        refine xp_pure (i := 24) rfl (by kernel_rfl) (by kernel_rfl) rfl rfl rfl (pv_move (v := .bool _) rfl rfl) ?_
                        refine xp_pure (i := 25) rfl (by kernel_rfl) (by kernel_rfl) rfl rfl rfl (pv_fieldAddr rfl rfl) ?_
                        refine xp_light (i := 26) rfl (by kernel_rfl) (by kernel_rfl) rfl rfl rfl (lv_load (v := .slice _ _ _) rfl rfl (ld_blk m6_3 rfl)) ?_
                        refine xp_heavy (i := 27) (by kernel_rfl) ?_
                        refine xph_val rfl rfl rfl rfl (hv_call (g := 37) rfl rfl (sorted (((hE.get hkE).1.ints).ext hX) hes1) rfl) (pd (by kernel_rfl) (pk (by kernel_rfl) (pk (by kernel_rfl) (pk (by kernel_rfl) (pk (by kernel_rfl) pn))))) ?_
                        rintro v9_27 H9_27 ⟨hv9_27, rfl⟩
                        refine ⟨(okc (lv_load (v := .slice _ _ _) rfl rfl (ld_blk m6_3 rfl)) (okc (lv_load (v := .slice _ _ _) rfl rfl (ld_blk m6_3 rfl)) (okc (lv_load (v := .int _ _) rfl rfl (by exact ldE mg hkT 0 rfl)) (okc (lv_load (v := .slice _ _ _) rfl rfl (ld_blk m6_3 rfl)) okn)))), ?_⟩
                        rcases hv9_27 with ⟨hi9_27, rfl⟩ | ⟨hi9_27, rfl⟩
                        · skip
                          refine xp_pure (i := 28) rfl (by kernel_rfl) (by kernel_rfl) rfl rfl rfl (pv_not rfl rfl) ?_
                          refine xp_pure (i := 29) rfl (by kernel_rfl) (by kernel_rfl) rfl rfl rfl (pv_pick_f (v := .bool _) rfl rfl rfl) ?_
                          refine xp_done (by kernel_rfl) ?_
                          refine xthen_normal ?_
                          refine xc_cond_f rfl ?_
                          refine xc_skip ?_
                          refine xthen_normal ?_
                          exact ⟨(), ⟨rfl, rfl, rfl, rfl, rfl, rfl, rfl, trivial⟩, ⟨⟨by omega, by omega, fun h => ⟨by omega, by omega⟩⟩, hi9_27, mp, mg, m6_3, hm, hL, hX⟩⟩
                        · skip
                          refine xp_pure (i := 28) rfl (by kernel_rfl) (by kernel_rfl) rfl rfl rfl (pv_not rfl rfl) ?_
                          refine xp_pure (i := 29) rfl (by kernel_rfl) (by kernel_rfl) rfl rfl rfl (pv_pick_f (v := .bool _) rfl rfl rfl) ?_
                          refine xp_done (by kernel_rfl) ?_
                          refine xthen_normal ?_
                          refine xc_cond_t rfl ?_
                          refine xc_seq ?_
                          refine xc_region ?_
                          refine xl_pure rfl rfl rfl (pv_assign (v := .pointer _) rfl rfl) ?_
                          refine xl_pure rfl rfl rfl (pv_assign (v := .int _ _) rfl rfl) ?_
                          refine xl_nil ?_
                          refine xthen_normal ?_
                          refine xc_ret ?_
                          refine xthen_ret ?_
                          refine xblock_ret ?_
                          refine xthen_ret ?_
                          refine xthen_ret ?_
                          refine xblock_ret ?_
                          refine xthen_ret ?_
                          refine fin_ret (res2 (v := .pointer _) (x := .int _ _) rfl rfl rfl) ?_
                          first
                            | exact ⟨.inr ⟨fun h => hi9_27 (h.at_ k hkE).2, rfl⟩, hX⟩
                            | exact ⟨.inr ⟨fun h => by obtain ⟨⟨p1, p2, p3⟩, p4⟩ := h.at_ k hkE; rcases Nat.eq_zero_or_pos (gE E k).wt.length with h0 | h0; omega; have := p3 h0; omega, rfl⟩, hX⟩
                · intro σ
                  clear hX mp hm hL mg m6_3
                  rintro t Hm9 ⟨hlk, hso, mp, mg, m6_3, hm, hL, hX⟩
                  replace hlk : lnOk ((sls l).getD k 0) (gE E k).rn (gE E k).wt := hlk
                  replace hso : SrtI (gE E k).rn (gE E k).rn.length := hso
                  replace mp : Blk Hm9 bp [.slice va E.length vc, .map (some m)] 52 := mp
                  replace mg : Blk Hm9 gb (fE T ++ ex) 69 := mg
                  replace m6_3 : Blk Hm9 b6_3 [.slice (gE E k).ra (gE E k).rn.length (gE E k).rc, .slice (gE E k).wa (gE E k).wt.length (gE E k).wc] 40 := m6_3
                  replace hm : MapI Hm9 m g := hm
                  replace hL : LS Hm9 (fun j => H.size ≤ j) T := hL
                  replace hX : Ext H Hm9 := hX
                  show XC _ _ _ (upds σ [(6, .pointer (some ⟨bp, 0, none⟩)), (8, .int .i64 (k : Nat)), (9, .pointer (some ⟨b6_3, 0, none⟩)), (10, .pointer (some ⟨gb, 0 + k * 3, none⟩)), (33, .slice xa E.length xc), (34, .int .i64 (E.length : Nat)), (35, .int .i64 (k : Nat))]) _
                  refine xc_seq ?_
                  refine xc_seq ?_
                  refine xp_start rfl (by repeat (first | with_reducible exact np_fin | with_reducible exact np_ret | with_reducible refine np_then ?_ | with_reducible refine np_block ?_)) (by kernel_rfl) ?_
                  refine xp_pure (i := 0) rfl (by kernel_rfl) (by kernel_rfl) rfl rfl rfl (pv_fieldAddr rfl rfl) ?_
                  refine xp_light (i := 1) rfl (by kernel_rfl) (by kernel_rfl) rfl rfl rfl (lv_load (v := .slice _ _ _) rfl rfl (ld_blk m6_3 rfl)) ?_
                  refine xp_pure (i := 3) rfl (by kernel_rfl) (by kernel_rfl) rfl rfl rfl (pv_fieldAddr rfl rfl) ?_
                  refine xp_light (i := 4) rfl (by kernel_rfl) (by kernel_rfl) rfl rfl rfl (lv_load (v := .slice _ _ _) rfl rfl (ld_blk m6_3 rfl)) ?_
                  refine xp_pure (i := 7) rfl (by kernel_rfl) (by kernel_rfl) rfl rfl rfl (pv_move (v := .int _ _) rfl rfl) ?_
                  refine xp_heavy (i := 2) (by kernel_rfl) ?_
                  refine xph_val rfl rfl rfl rfl (hv_call (g := 28) rfl rfl (cloneK rfl (((hE.get hkE).1.ints).ext hX) hes1) rfl) (pk (by kernel_rfl) (pd (by kernel_rfl) pn)) ?_
                  rintro v11_2 H11_2 ⟨a11_2, c11_2, rfl, hI11_2, hB11_2, hE11_2⟩
                  have hlt2 : ∀ k w j, k < T.length → bk (adE (gE T k) w) j → j < _ := fun k w j hk hj => (hL.io k hk w).lt hj
                  have hge11_2 := hX.size
                  have mp := mp.ext hE11_2
                  have mg := mg.ext hE11_2
                  have m6_3 := m6_3.ext hE11_2
                  have hm := hm.ext hE11_2
                  have hL := hL.ext hE11_2
                  have hX := hX.trans hE11_2
                  refine ⟨(okc (lv_load (v := .slice _ _ _) rfl rfl (ld_blk m6_3 rfl)) okn), ?_⟩
                  refine xp_heavy (i := 5) (by kernel_rfl) ?_
                  refine xph_val rfl rfl rfl rfl (hv_append_cells (size := 1) (news := ints (gE E k).wt) rfl rfl hI11_2 rfl (ints_len1 _) (ints_src (((hE.get hkE).2.ints).ext hX)) (ints_one1 _) rfl (by decide) (by omega) (by omega) (Nat.zero_le _)) (pd (by kernel_rfl) pn) ?_
                  rintro v11_5 H11_5 ⟨hO11_5, hG11_5⟩
                  have hK := gr_keep hG11_5
                  have hmo := io_mapoff hI11_2 hm
                  have hL := hL.keep hK (fun j hj k w hk h => by have := hlt2 k w j hk h; have := hB11_2 j hj; omega)
                  have hX := hX.keep hK (fun i h => Nat.le_trans hge11_2 (hB11_2 i h))
                  have hm := hm.keep hK hmo
                  have mp := mp.keep hK (hI11_2.noty mp rfl)
                  have mg := mg.keep hK (hI11_2.noty mg rfl)
                  have m6_3 := m6_3.keep hK (hI11_2.noty m6_3 rfl)
                  obtain ⟨a11_5, c11_5, rfl⟩ := hO11_5.val
                  have hq := own_as hO11_5 jl_cat
                  refine ⟨okn, ?_⟩
                  refine xp_pure (i := 6) rfl (by kernel_rfl) (by kernel_rfl) rfl rfl rfl (pv_len_l rfl rfl) ?_
                  refine xp_done (by kernel_rfl) ?_
                  refine xthen_normal ?_
                  refine xc_block ?_
                  refine xc_loop (τ := Nat × Fn) (fun t => [(6, .pointer (some ⟨bp, 0, none⟩)), (8, .int .i64 (k : Nat)), (9, .pointer (some ⟨b6_3, 0, none⟩)), (10, .pointer (some ⟨gb, 0 + k * 3, none⟩)), (33, .slice xa E.length xc), (34, .int .i64 (E.length : Nat)), (35, .int .i64 (k : Nat)), (96, .slice a11_5 ((gE E k).rn.length + (gE E k).wt.length) c11_5), (97, .int .i64 (((gE E k).rn.length + (gE E k).wt.length) : Nat)), (98, .int .i64 (t.1 : Nat))]) (fun t H' => (t.1 ≤ ((gE E k).rn.length + (gE E k).wt.length)) ∧ (LdG l E k t.1) ∧ (CG E k ((jlE (gE E k)).take t.1) t.2) ∧ (Blk H' bp [.slice va E.length vc, .map (some m)] 52) ∧ (Blk H' gb (fE T ++ ex) 69) ∧ (Blk H' b6_3 [.slice (gE E k).ra (gE E k).rn.length (gE E k).rc, .slice (gE E k).wa (gE E k).wt.length (gE E k).wc] 40) ∧ (MapI H' m t.2) ∧ (LS H' (fun j => H.size ≤ j) T) ∧ (Own H' 0 3 1 (.slice a11_5 ((gE E k).rn.length + (gE E k).wt.length) c11_5) ((gE E k).rn.length + (gE E k).wt.length) (ints (jlE (gE E k)))) ∧ (Ext H H')) (fun t H' => ((gE E k).rn.length + (gE E k).wt.length) - t.1) (0, g) ?_ ?_ ?_
                  · exact ⟨rfl, rfl, rfl, rfl, rfl, rfl, rfl, rfl, rfl, rfl, trivial⟩
                  · skip
                    exact ⟨Nat.zero_le _, hg, by rw [List.take_zero]; exact hcg, mp, mg, m6_3, hm, hL, hq, hX⟩
                  · intro σ
                    clear hX mp hm hL mg m6_3 hq hg hcg
                    rintro ⟨i, g⟩ Hl12 ⟨hi, hg, hcg, mp, mg, m6_3, hm, hL, hq, hX⟩
                    replace hi : i ≤ ((gE E k).rn.length + (gE E k).wt.length) := hi
                    replace hg : LdG l E k i := hg
                    replace hcg : CG E k ((jlE (gE E k)).take i) g := hcg
                    replace mp : Blk Hl12 bp [.slice va E.length vc, .map (some m)] 52 := mp
                    replace mg : Blk Hl12 gb (fE T ++ ex) 69 := mg
                    replace m6_3 : Blk Hl12 b6_3 [.slice (gE E k).ra (gE E k).rn.length (gE E k).rc, .slice (gE E k).wa (gE E k).wt.length (gE E k).wc] 40 := m6_3
                    replace hm : MapI Hl12 m g := hm
                    replace hL : LS Hl12 (fun j => H.size ≤ j) T := hL
                    replace hq : Own Hl12 0 3 1 (.slice a11_5 ((gE E k).rn.length + (gE E k).wt.length) c11_5) ((gE E k).rn.length + (gE E k).wt.length) (ints (jlE (gE E k))) := hq
                    replace hX : Ext H Hl12 := hX
                    show XC _ _ _ (upds σ [(6, .pointer (some ⟨bp, 0, none⟩)), (8, .int .i64 (k : Nat)), (9, .pointer (some ⟨b6_3, 0, none⟩)), (10, .pointer (some ⟨gb, 0 + k * 3, none⟩)), (33, .slice xa E.length xc), (34, .int .i64 (E.length : Nat)), (35, .int .i64 (k : Nat)), (96, .slice a11_5 ((gE E k).rn.length + (gE E k).wt.length) c11_5), (97, .int .i64 (((gE E k).rn.length + (gE E k).wt.length) : Nat)), (98, .int .i64 (i : Nat))]) _
                    refine xc_seq ?_
                    refine xc_region ?_
                    refine xl_dec rfl rfl rfl (pv_lss rfl rfl rfl) (fun h12_0 => ?_) (fun h12_0 => ?_)
                    · skip
                      refine xl_nil ?_
                      refine xthen_normal ?_
                      refine xc_seq ?_
                      refine xc_cond_t rfl ?_
                      refine xc_skip ?_
                      refine xthen_normal ?_
                      refine xc_seq ?_
                      refine xc_block ?_
                      refine xc_seq ?_
                      obtain ⟨gq, oq, hdq⟩ := (own_Ints hq).at'
                      refine xc_region ?_
                      refine xl_pure rfl rfl rfl (pv_indexAddr_l rfl (sl_eq (hdq (by omega)).1) rfl (by omega)) ?_
                      refine xl_light rfl rfl rfl (lv_load (v := .int _ _) rfl rfl (by exact ld_nth (k := i) (hdq (by omega)).2 (by omega))) ?_
                      refine xl_pure rfl rfl rfl (pv_assign (v := .int _ _) rfl rfl) ?_
                      refine xl_nil ?_
                      refine xthen_normal ?_
                      refine xc_seq ?_
                      refine xc_seq ?_
                      refine xc_region ?_
                      refine xl_pure rfl rfl rfl (pv_move (v := .pointer _) rfl rfl) ?_
                      refine xl_pure rfl rfl rfl (pv_nilCheck_p rfl rfl) ?_
                      refine xl_pure rfl rfl rfl (pv_fieldAddr rfl rfl) ?_
                      refine xl_light rfl rfl rfl (lv_load (v := .map _) rfl rfl (ld_blk mp rfl)) ?_
                      refine xl_pure rfl rfl rfl (pv_move (v := .int _ _) rfl rfl) ?_
                      rcases hof : g ((jlE (gE E k)).getD i 0) with _ | r
                      · skip
                        refine xl_light rfl rfl rfl (lv_lookI_n rfl rfl rfl hm hof) ?_
                        refine xl_pure rfl rfl rfl (pv_move (v := .tuple _) rfl rfl) ?_
                        refine xl_pure rfl rfl rfl (pv_extract (v := .int _ _) rfl rfl rfl) ?_
                        refine xl_pure rfl rfl rfl (pv_extract (v := .bool _) rfl rfl rfl) ?_
                        refine xl_pure rfl rfl rfl (pv_assign (v := .int _ _) rfl rfl) ?_
                        refine xl_pure rfl rfl rfl (pv_assign (v := .bool _) rfl rfl) ?_
                        refine xl_nil ?_
                        refine xthen_normal ?_
                        refine xc_seq ?_
                        refine xc_region ?_
                        refine xl_pure rfl rfl rfl (pv_move (v := .bool _) rfl rfl) ?_
                        refine xl_pure rfl rfl rfl (pv_move (v := .bool _) rfl rfl) ?_
                        refine xl_pure rfl rfl rfl (pv_move (v := .int _ _) rfl rfl) ?_
                        refine xl_heavy rfl rfl rfl (hv_call (g := 22) rfl rfl (isJob ((jlE (gE E k)).getD i 0)) rfl) ?_
                        rintro v15_3 H15_3 ⟨hv15_3, rfl⟩
                        rcases hv15_3 with ⟨hi15_3, rfl⟩ | ⟨hi15_3, rfl⟩
                        · skip
                          refine xl_pure rfl rfl rfl (pv_not rfl rfl) ?_
                          refine xl_pure rfl rfl rfl (pv_pick_f (v := .bool _) rfl rfl rfl) ?_
                          refine xl_nil ?_
                          refine xthen_normal ?_
                          refine xc_cond_f rfl ?_
                          refine xc_skip ?_
                          refine xthen_normal ?_
                          refine xc_region ?_
                          refine xl_pure rfl rfl rfl (pv_move (v := .pointer _) rfl rfl) ?_
                          refine xl_pure rfl rfl rfl (pv_nilCheck_p rfl rfl) ?_
                          refine xl_pure rfl rfl rfl (pv_fieldAddr rfl rfl) ?_
                          refine xl_light rfl rfl rfl (lv_load (v := .map _) rfl rfl (ld_blk mp rfl)) ?_
                          refine xl_pure rfl rfl rfl (pv_move (v := .int _ _) rfl rfl) ?_
                          refine xl_pure rfl rfl rfl (pv_move (v := .int _ _) rfl rfl) ?_
                          refine xl_store rfl rfl (hv_putI rfl rfl rfl rfl hm) ?_
                          rintro v17_6 H17_6 ⟨hm17_6, hU17_6⟩
                          have mp := mp.but hU17_6 (hm.blk mp).ne
                          have mg := mg.but hU17_6 (hm.blk mg).ne
                          have m6_3 := m6_3.but hU17_6 (hm.blk m6_3).ne
                          have hq := own_offI hq hm hU17_6
                          have hL := hL.offI hm hU17_6
                          have hX := hX.upd hU17_6 ⟨hGm.1⟩
                          have hm := hm17_6
                          refine xl_nil ?_
                          refine xblock_normal ?_
                          refine xthen_normal ?_
                          refine xc_region ?_
                          refine xl_pure rfl rfl rfl (pv_add rfl rfl rfl (fit_i64 (by omega))) ?_
                          refine xl_pure rfl rfl rfl (pv_move (v := .int _ _) rfl rfl) ?_
                          refine xl_nil ?_
                          refine xthen_normal ?_
                          exact ⟨(i + 1, _), ⟨rfl, rfl, rfl, rfl, rfl, rfl, rfl, rfl, rfl, rfl, trivial⟩, ⟨by (try simp only); omega, hg.step (by omega) hi15_3 (fun h => by obtain ⟨r, hr⟩ := (cg_mem hcg hkE).2 h; rw [hof] at hr; cases hr), by rw [take_gd (by omega)]; exact hcg.put2 (fun r hr => by rw [hof] at hr; cases hr), mp, mg, m6_3, hm, hL, hq, hX⟩, by (try simp only); omega⟩
                        · skip
                          refine xl_pure rfl rfl rfl (pv_not rfl rfl) ?_
                          refine xl_pure rfl rfl rfl (pv_pick_f (v := .bool _) rfl rfl rfl) ?_
                          refine xl_nil ?_
                          refine xthen_normal ?_
                          refine xc_cond_t rfl ?_
                          refine xc_seq ?_
                          refine xc_region ?_
                          refine xl_pure rfl rfl rfl (pv_assign (v := .pointer _) rfl rfl) ?_
                          refine xl_pure rfl rfl rfl (pv_assign (v := .int _ _) rfl rfl) ?_
                          refine xl_nil ?_
                          refine xthen_normal ?_
                          refine xc_ret ?_
                          refine xthen_ret ?_
                          refine xblock_ret ?_
                          refine xthen_ret ?_
                          refine xthen_ret ?_
                          refine xblock_ret ?_
                          refine xthen_ret ?_
                          refine xblock_ret ?_
                          refine xthen_ret ?_
                          refine xthen_ret ?_
                          refine xblock_ret ?_
                          refine xthen_ret ?_
                          refine fin_ret (res2 (v := .pointer _) (x := .int _ _) rfl rfl rfl) ?_
                          refine ⟨.inr ⟨fun h => ?_, rfl⟩, hX⟩
                          have hn := h.new hkE (i := i) (by omega)
                          first
                            | exact hn.2 ((cg_mem hcg hkE).1 ⟨_, hof⟩)
                            | exact hi15_3 hn.1
                      · skip
                        refine xl_light rfl rfl rfl (lv_lookI_s rfl rfl rfl hm hof) ?_
                        refine xl_pure rfl rfl rfl (pv_move (v := .tuple _) rfl rfl) ?_
                        refine xl_pure rfl rfl rfl (pv_extract (v := .int _ _) rfl rfl rfl) ?_
                        refine xl_pure rfl rfl rfl (pv_extract (v := .bool _) rfl rfl rfl) ?_
                        refine xl_pure rfl rfl rfl (pv_assign (v := .int _ _) rfl rfl) ?_
                        refine xl_pure rfl rfl rfl (pv_assign (v := .bool _) rfl rfl) ?_
                        refine xl_nil ?_
                        refine xthen_normal ?_
                        refine xc_seq ?_
                        refine xc_region ?_
                        refine xl_pure rfl rfl rfl (pv_move (v := .bool _) rfl rfl) ?_
                        refine xl_pure rfl rfl rfl (pv_move (v := .bool _) rfl rfl) ?_
                        refine xl_skip rfl rfl rfl ?_
                        refine xl_skip rfl rfl rfl ?_
                        refine xl_skip rfl rfl rfl ?_
                        refine xl_pure rfl rfl rfl (pv_pick_t (v := .bool _) rfl rfl rfl) ?_
                        refine xl_nil ?_
                        refine xthen_normal ?_
                        refine xc_cond_t rfl ?_
                        refine xc_seq ?_
                        refine xc_region ?_
                        refine xl_pure rfl rfl rfl (pv_assign (v := .pointer _) rfl rfl) ?_
                        refine xl_pure rfl rfl rfl (pv_assign (v := .int _ _) rfl rfl) ?_
                        refine xl_nil ?_
                        refine xthen_normal ?_
                        refine xc_ret ?_
                        refine xthen_ret ?_
                        refine xblock_ret ?_
                        refine xthen_ret ?_
                        refine xthen_ret ?_
                        refine xblock_ret ?_
                        refine xthen_ret ?_
                        refine xblock_ret ?_
                        refine xthen_ret ?_
                        refine xthen_ret ?_
                        refine xblock_ret ?_
                        refine xthen_ret ?_
                        refine fin_ret (res2 (v := .pointer _) (x := .int _ _) rfl rfl rfl) ?_
                        refine ⟨.inr ⟨fun h => ?_, rfl⟩, hX⟩
                        have hn := h.new hkE (i := i) (by omega)
                        first
                          | exact hn.2 ((cg_mem hcg hkE).1 ⟨_, hof⟩)
                          | exact hi15_3 hn.1
                    · skip
                      refine xl_nil ?_
                      refine xthen_normal ?_
                      refine xc_seq ?_
                      refine xc_cond_f rfl ?_
                      refine xc_exit ?_
                      refine xthen_exit ?_
                      refine xthen_exit ?_
                      refine xblock_same ?_
                      refine xthen_normal ?_
                      refine xp_start rfl (by repeat (first | with_reducible exact np_fin | with_reducible exact np_ret | with_reducible refine np_then ?_ | with_reducible refine np_block ?_)) (by kernel_rfl) ?_
                      refine xp_pure (i := 0) rfl (by kernel_rfl) (by kernel_rfl) rfl rfl rfl (pv_move (v := .pointer _) rfl rfl) ?_
                      refine xp_pure (i := 1) rfl (by kernel_rfl) (by kernel_rfl) rfl rfl rfl (pv_move (v := .pointer _) rfl rfl) ?_
                      refine xp_pure (i := 2) rfl (by kernel_rfl) (by kernel_rfl) rfl rfl rfl (pv_fieldAddr rfl rfl) ?_
                      refine xp_light (i := 3) rfl (by kernel_rfl) (by kernel_rfl) rfl rfl rfl (lv_load (v := .slice _ _ _) rfl rfl (ld_blk m6_3 rfl)) ?_
                      refine xp_pure (i := 5) rfl (by kernel_rfl) (by kernel_rfl) rfl rfl rfl (pv_fieldAddr rfl rfl) ?_
                      refine xp_light (i := 6) rfl (by kernel_rfl) (by kernel_rfl) rfl rfl rfl (lv_load (v := .slice _ _ _) rfl rfl (ld_blk m6_3 rfl)) ?_
                      refine xp_heavy (i := 4) (by kernel_rfl) ?_
                      refine xph_val rfl rfl rfl rfl (hv_call (g := 28) rfl rfl (cloneK rfl (((hE.get hkE).1.ints).ext hX) hes1) rfl) (pk (by kernel_rfl) (pd (by kernel_rfl) pn)) ?_
                      rintro v19_4 H19_4 ⟨a19_4, c19_4, rfl, hI19_4, hB19_4, hE19_4⟩
                      have hL9 := hL
                      have hgo := hL.off mg rfl
                      have hgs := hX.size
                      have hkf := (KeepF.refl (fun j => j = gb) _).transE hE19_4
                      have mp := mp.ext hE19_4
                      have mg := mg.ext hE19_4
                      have m6_3 := m6_3.ext hE19_4
                      have hm := hm.ext hE19_4
                      have hX := hX.trans hE19_4
                      refine ⟨(okc (lv_load (v := .slice _ _ _) rfl rfl (ld_blk m6_3 rfl)) okn), ?_⟩
                      refine xp_heavy (i := 7) (by kernel_rfl) ?_
                      refine xph_val rfl rfl rfl rfl (hv_call (g := 28) rfl rfl (cloneK rfl (((hE.get hkE).2.ints).ext hX) hes2) rfl) (pd (by kernel_rfl) pn) ?_
                      rintro v19_7 H19_7 ⟨a19_7, c19_7, rfl, hI19_7, hB19_7, hE19_7⟩
                      have hr1 : ∀ j, bk a19_4 j → j < _ := fun j hj => hI19_4.lt hj
                      have hkf := hkf.transE hE19_7
                      have hI19_4 := hI19_4.ext hE19_7
                      have mp := mp.ext hE19_7
                      have mg := mg.ext hE19_7
                      have m6_3 := m6_3.ext hE19_7
                      have hm := hm.ext hE19_7
                      have hX := hX.trans hE19_7
                      refine ⟨okn, ?_⟩
                      refine xp_pure (i := 8) rfl (by kernel_rfl) (by kernel_rfl) rfl rfl rfl (pv_nilCheck_p rfl rfl) ?_
                      refine xp_pure (i := 9) rfl (by kernel_rfl) (by kernel_rfl) rfl rfl rfl (pv_fieldAddr rfl rfl) ?_
                      refine xp_heavy (i := 10) (by kernel_rfl) ?_
                      refine xph_store rfl rfl rfl (hv_store (vs := [.slice a19_4 (gE E k).rn.length c19_4]) rfl rfl rfl mg rfl (by show 0 + k * 3 + 1 + 1 ≤ _; omega) rfl) pn ?_
                      rintro v19_10 H19_10 ⟨hU19_10, hZ19_10⟩
                      have mp := mp.but hU19_10.but (mp.ne mg rfl)
                      have m6_3 := m6_3.but hU19_10.but (m6_3.ne mg rfl)
                      have hm := hm.off hU19_10.but (Apart.symm (hm.blk mg))
                      have hI19_4 := hI19_4.but hU19_10.but (hI19_4.noty mg rfl)
                      have hI19_7 := hI19_7.but hU19_10.but (hI19_7.noty mg rfl)
                      have hX := hX.upd hU19_10.but ⟨hgb0⟩
                      have hkf := hkf.own hU19_10.but rfl
                      have mg := hU19_10.blk
                      refine ⟨okn, ?_⟩
                      refine xp_pure (i := 11) rfl (by kernel_rfl) (by kernel_rfl) rfl rfl rfl (pv_nilCheck_p rfl rfl) ?_
                      refine xp_pure (i := 12) rfl (by kernel_rfl) (by kernel_rfl) rfl rfl rfl (pv_fieldAddr rfl rfl) ?_
                      refine xp_heavy (i := 13) (by kernel_rfl) ?_
                      refine xph_store rfl rfl rfl (hv_store (vs := [.slice a19_7 (gE E k).wt.length c19_7]) rfl rfl rfl mg rfl (by rw [setRange_length]; show 0 + k * 3 + 2 + 1 ≤ _; omega) rfl) pn ?_
                      rintro v19_13 H19_13 ⟨hU19_13, hZ19_13⟩
                      have mp := mp.but hU19_13.but (mp.ne mg rfl)
                      have m6_3 := m6_3.but hU19_13.but (m6_3.ne mg rfl)
                      have hm := hm.off hU19_13.but (Apart.symm (hm.blk mg))
                      have hI19_4 := hI19_4.but hU19_13.but (hI19_4.noty mg rfl)
                      have hI19_7 := hI19_7.but hU19_13.but (hI19_7.noty mg rfl)
                      have hX := hX.upd hU19_13.but ⟨hgb0⟩
                      have hkf := hkf.own hU19_13.but rfl
                      have mg := hU19_13.blk
                      have mg2 := mg_as mg (set2_cells (a1 := a19_4) (l1 := (gE E k).rn) (c1 := c19_4) (a2 := a19_7) (l2 := (gE E k).wt) (c2 := c19_7) hkT)
                      have hL := LS.set2 hL9 hkT hkf hgo hI19_4 hI19_7 hB19_4 (fun j hj => Nat.le_trans hE19_4.size (hB19_7 j hj)) (fun j h1 h2 => by have := hr1 j h1; have := hB19_7 j h2; omega) (fun j hj => Nat.le_trans hgs hj)
                      refine ⟨okn, ?_⟩
                      refine xp_done (by kernel_rfl) ?_
                      refine xblock_normal ?_
                      refine xthen_normal ?_
                      refine xc_region ?_
                      refine xl_pure rfl rfl rfl (pv_add rfl rfl rfl (fit_i64 (by omega))) ?_
                      refine xl_pure rfl rfl rfl (pv_move (v := .int _ _) rfl rfl) ?_
                      refine xl_nil ?_
                      refine xthen_normal ?_
                      exact ⟨(k + 1, T.set k (sE (gE T k) (gE E k).rn a19_4 c19_4 (gE E k).wt a19_7 c19_7), g), ⟨rfl, rfl, rfl, rfl, trivial⟩, ⟨by (try simp only); omega, hTP.next hkT, hg.done hkE (by omega) (by have h1 := hlk.1; have h2 := hlk.2.1; omega) hlk hso, hcg.next (List.take_of_length_le (by omega)), mp, by rw [hae]; exact own_mk mg2 (Nat.zero_le _) (by rw [fE_len, List.length_set]; omega) (by rw [List.length_append, fE_len, List.length_set, ← fE_len, ← List.length_append]; exact hexl) hnc hcm, hm, hL, hX⟩, by (try simp only); omega⟩
            · skip
              refine xp_pure (i := 8) rfl (by kernel_rfl) (by kernel_rfl) rfl rfl rfl (pv_move (v := .bool _) rfl rfl) ?_
              refine xp_skip (i := 9) rfl (by kernel_rfl) (by kernel_rfl) rfl rfl rfl ?_
              refine xp_skip (i := 10) rfl (by kernel_rfl) (by kernel_rfl) rfl rfl rfl ?_
              refine xp_skip (i := 11) rfl (by kernel_rfl) (by kernel_rfl) rfl rfl rfl ?_
              refine xp_skip (i := 12) rfl (by kernel_rfl) (by kernel_rfl) rfl rfl rfl ?_
              refine xp_skip (i := 13) rfl (by kernel_rfl) (by kernel_rfl) rfl rfl rfl ?_
              refine xp_pure (i := 14) rfl (by kernel_rfl) (by kernel_rfl) rfl rfl rfl (pv_pick_f (v := .bool _) rfl rfl rfl) ?_
              refine xp_pure (i := 15) rfl (by kernel_rfl) (by kernel_rfl) rfl rfl rfl (pv_assign (v := .bool _) rfl rfl) ?_
              refine xp_done (by kernel_rfl) ?_
              refine xthen_normal ?_
              refine xc_cut (τ := Unit) (fun t => [(6, .pointer (some ⟨bp, 0, none⟩)), (8, .int .i64 (k : Nat)), (9, .pointer (some ⟨b6_3, 0, none⟩)), (10, .pointer (some ⟨gb, 0 + k * 3, none⟩)), (33, .slice xa E.length xc), (34, .int .i64 (E.length : Nat)), (35, .int .i64 (k : Nat))]) (fun t H' => (lnOk ((sls l).getD k 0) (gE E k).rn (gE E k).wt) ∧ (SrtI (gE E k).rn (gE E k).rn.length) ∧ (Blk H' bp [.slice va E.length vc, .map (some m)] 52) ∧ (Blk H' gb (fE T ++ ex) 69) ∧ (Blk H' b6_3 [.slice (gE E k).ra (gE E k).rn.length (gE E k).rc, .slice (gE E k).wa (gE E k).wt.length (gE E k).wc] 40) ∧ (MapI H' m g) ∧ (LS H' (fun j => H.size ≤ j) T) ∧ (Ext H H')) ?_ ?_
              · skip
                refine xc_seq ?_
                refine xp_start rfl (by repeat (first | with_reducible exact np_fin | with_reducible exact np_ret | with_reducible refine np_then ?_ | with_reducible refine np_block ?_)) (by kernel_rfl) ?_
                refine xp_pure (i := 0) rfl (by kernel_rfl) (by kernel_rfl) rfl rfl rfl (pv_fieldAddr rfl rfl) ?_
                refine xp_light (i := 1) rfl (by kernel_rfl) (by kernel_rfl) rfl rfl rfl (lv_load (v := .slice _ _ _) rfl rfl (ld_blk m6_3 rfl)) ?_
                refine xp_pure (i := 2) rfl (by kernel_rfl) (by kernel_rfl) rfl rfl rfl (pv_len_l rfl rfl) ?_
                refine xp_pure (i := 3) rfl (by kernel_rfl) (by kernel_rfl) rfl rfl rfl (pv_move (v := .pointer _) rfl rfl) ?_
                refine xp_pure (i := 4) rfl (by kernel_rfl) (by kernel_rfl) rfl rfl rfl (pv_nilCheck_p rfl rfl) ?_
                refine xp_pure (i := 5) rfl (by kernel_rfl) (by kernel_rfl) rfl rfl rfl (pv_fieldAddr rfl rfl) ?_
                refine xp_light (i := 6) rfl (by kernel_rfl) (by kernel_rfl) rfl rfl rfl (lv_load (v := .int _ _) rfl rfl (by exact ldE mg hkT 0 rfl)) ?_
                refine xp_dec (i := 7) rfl (by kernel_rfl) (by kernel_rfl) rfl rfl rfl (pv_gtr rfl rfl rfl) (fun h9_7 => ?_) (fun h9_7 => ?_)
                · skip
                  refine xp_pure (i := 8) rfl (by kernel_rfl) (by kernel_rfl) rfl rfl rfl (pv_move (v := .bool _) rfl rfl) ?_
                  refine xp_skip (i := 9) rfl (by kernel_rfl) (by kernel_rfl) rfl rfl rfl ?_
                  refine xp_skip (i := 10) rfl (by kernel_rfl) (by kernel_rfl) rfl rfl rfl ?_
                  refine xp_skip (i := 11) rfl (by kernel_rfl) (by kernel_rfl) rfl rfl rfl ?_
                  refine xp_skip (i := 12) rfl (by kernel_rfl) (by kernel_rfl) rfl rfl rfl ?_
                  refine xp_pure (i := 13) rfl (by kernel_rfl) (by kernel_rfl) rfl rfl rfl (pv_pick_t (v := .bool _) rfl rfl rfl) ?_
                  refine xp_pure (i := 14) rfl (by kernel_rfl) (by kernel_rfl) rfl rfl rfl (pv_move (v := .bool _) rfl rfl) ?_
                  refine xp_skip (i := 15) rfl (by kernel_rfl) (by kernel_rfl) rfl rfl rfl ?_
                  refine xp_skip (i := 16) rfl (by kernel_rfl) (by kernel_rfl) rfl rfl rfl ?_
                  refine xp_skip (i := 17) rfl (by kernel_rfl) (by kernel_rfl) rfl rfl rfl ?_
                  refine xp_skip (i := 18) rfl (by kernel_rfl) (by kernel_rfl) rfl rfl rfl ?_
                  refine xp_skip (i := 19) rfl (by kernel_rfl) (by kernel_rfl) rfl rfl rfl ?_
                  refine xp_skip (i := 20) rfl (by kernel_rfl) (by kernel_rfl) rfl rfl rfl ?_
                  refine xp_skip (i := 21) rfl (by kernel_rfl) (by kernel_rfl) rfl rfl rfl ?_
                  refine xp_skip (i := 22) rfl (by kernel_rfl) (by kernel_rfl) rfl rfl rfl ?_
                  refine xp_pure (i := 23) rfl (by kernel_rfl) (by kernel_rfl) rfl rfl rfl (pv_pick_t (v := .bool _) rfl rfl rfl) ?_
                  refine xp_pure (i := 24) rfl (by kernel_rfl) (by kernel_rfl) rfl rfl rfl (pv_move (v := .bool _) rfl rfl) ?_
                  refine xp_skip (i := 25) rfl (by kernel_rfl) (by kernel_rfl) rfl rfl rfl ?_
                  refine xp_skip (i := 26) rfl (by kernel_rfl) (by kernel_rfl) rfl rfl rfl ?_
                  refine xp_skip (i := 27) rfl (by kernel_rfl) (by kernel_rfl) rfl rfl rfl ?_
                  refine xp_skip (i := 28) rfl (by kernel_rfl) (by kernel_rfl) rfl rfl rfl ?_
                  refine xp_pure (i := 29) rfl (by kernel_rfl) (by kernel_rfl) rfl rfl rfl (pv_pick_t (v := .bool _) rfl rfl rfl) ?_
                  refine xp_done (by kernel_rfl) ?_
                  refine xthen_normal ?_
                  refine xc_cond_t rfl ?_
                  refine xc_seq ?_
                  refine xc_region ?_
                  refine xl_pure rfl rfl rfl (pv_assign (v := .pointer _) rfl rfl) ?_
                  refine xl_pure rfl rfl rfl (pv_assign (v := .int _ _) rfl rfl) ?_
                  refine xl_nil ?_
                  refine xthen_normal ?_
                  refine xc_ret ?_
                  refine xthen_ret ?_
                  refine xblock_ret ?_
                  refine xthen_ret ?_
                  refine xthen_ret ?_
                  refine xblock_ret ?_
                  refine xthen_ret ?_
                  refine fin_ret (res2 (v := .pointer _) (x := .int _ _) rfl rfl rfl) ?_
                  first
                    | exact ⟨.inr ⟨fun h => hi9_27 (h.at_ k hkE).2, rfl⟩, hX⟩
                    | exact ⟨.inr ⟨fun h => by obtain ⟨⟨p1, p2, p3⟩, p4⟩ := h.at_ k hkE; rcases Nat.eq_zero_or_pos (gE E k).wt.length with h0 | h0; omega; have := p3 h0; omega, rfl⟩, hX⟩
                · skip
                  refine xp_pure (i := 8) rfl (by kernel_rfl) (by kernel_rfl) rfl rfl rfl (pv_move (v := .bool _) rfl rfl) ?_
                  refine xp_pure (i := 9) rfl (by kernel_rfl) (by kernel_rfl) rfl rfl rfl (pv_fieldAddr rfl rfl) ?_
                  refine xp_light (i := 10) rfl (by kernel_rfl) (by kernel_rfl) rfl rfl rfl (lv_load (v := .slice _ _ _) rfl rfl (ld_blk m6_3 rfl)) ?_
                  refine xp_pure (i := 11) rfl (by kernel_rfl) (by kernel_rfl) rfl rfl rfl (pv_len_l rfl rfl) ?_
                  refine xp_dec (i := 12) rfl (by kernel_rfl) (by kernel_rfl) rfl rfl rfl (pv_gtr rfl rfl rfl) (fun h9_12 => ?_) (fun h9_12 => ?_)
                  · skip
                    refine xp_pure (i := 13) rfl (by kernel_rfl) (by kernel_rfl) rfl rfl rfl (pv_pick_f (v := .bool _) rfl rfl rfl) ?_
                    refine xp_pure (i := 14) rfl (by kernel_rfl) (by kernel_rfl) rfl rfl rfl (pv_move (v := .bool _) rfl rfl) ?_
                    refine xp_skip (i := 15) rfl (by kernel_rfl) (by kernel_rfl) rfl rfl rfl ?_
                    refine xp_skip (i := 16) rfl (by kernel_rfl) (by kernel_rfl) rfl rfl rfl ?_
                    refine xp_skip (i := 17) rfl (by kernel_rfl) (by kernel_rfl) rfl rfl rfl ?_
                    refine xp_skip (i := 18) rfl (by kernel_rfl) (by kernel_rfl) rfl rfl rfl ?_
                    refine xp_skip (i := 19) rfl (by kernel_rfl) (by kernel_rfl) rfl rfl rfl ?_
                    refine xp_skip (i := 20) rfl (by kernel_rfl) (by kernel_rfl) rfl rfl rfl ?_
                    refine xp_skip (i := 21) rfl (by kernel_rfl) (by kernel_rfl) rfl rfl rfl ?_
                    refine xp_skip (i := 22) rfl (by kernel_rfl) (by kernel_rfl) rfl rfl rfl ?_
                    refine xp_pure (i := 23) rfl (by kernel_rfl) (by kernel_rfl) rfl rfl rfl (pv_pick_t (v := .bool _) rfl rfl rfl) ?_
                    refine xp_pure (i := 24) rfl (by kernel_rfl) (by kernel_rfl) rfl rfl rfl (pv_move (v := .bool _) rfl rfl) ?_
                    refine xp_skip (i := 25) rfl (by kernel_rfl) (by kernel_rfl) rfl rfl rfl ?_
                    refine xp_skip (i := 26) rfl (by kernel_rfl) (by kernel_rfl) rfl rfl rfl ?_
                    refine xp_skip (i := 27) rfl (by kernel_rfl) (by kernel_rfl) rfl rfl rfl ?_
                    refine xp_skip (i := 28) rfl (by kernel_rfl) (by kernel_rfl) rfl rfl rfl ?_
                    refine xp_pure (i := 29) rfl (by kernel_rfl) (by kernel_rfl) rfl rfl rfl (pv_pick_t (v := .bool _) rfl rfl rfl) ?_
                    refine xp_done (by kernel_rfl) ?_
                    refine xthen_normal ?_
                    refine xc_cond_t rfl ?_
                    refine xc_seq ?_
                    refine xc_region ?_
                    refine xl_pure rfl rfl rfl (pv_assign (v := .pointer _) rfl rfl) ?_
                    refine xl_pure rfl rfl rfl (pv_assign (v := .int _ _) rfl rfl) ?_
                    refine xl_nil ?_
                    refine xthen_normal ?_
                    refine xc_ret ?_
                    refine xthen_ret ?_
                    refine xblock_ret ?_
                    refine xthen_ret ?_
                    refine xthen_ret ?_
                    refine xblock_ret ?_
                    refine xthen_ret ?_
                    refine fin_ret (res2 (v := .pointer _) (x := .int _ _) rfl rfl rfl) ?_
                    first
                      | exact ⟨.inr ⟨fun h => hi9_27 (h.at_ k hkE).2, rfl⟩, hX⟩
                      | exact ⟨.inr ⟨fun h => by obtain ⟨⟨p1, p2, p3⟩, p4⟩ := h.at_ k hkE; rcases Nat.eq_zero_or_pos (gE E k).wt.length with h0 | h0; omega; have := p3 h0; omega, rfl⟩, hX⟩
                  · skip
                    refine xp_pure (i := 13) rfl (by kernel_rfl) (by kernel_rfl) rfl rfl rfl (pv_pick_f (v := .bool _) rfl rfl rfl) ?_
                    refine xp_pure (i := 14) rfl (by kernel_rfl) (by kernel_rfl) rfl rfl rfl (pv_move (v := .bool _) rfl rfl) ?_
                    refine xp_pure (i := 15) rfl (by kernel_rfl) (by kernel_rfl) rfl rfl rfl (pv_fieldAddr rfl rfl) ?_
                    refine xp_light (i := 16) rfl (by kernel_rfl) (by kernel_rfl) rfl rfl rfl (lv_load (v := .slice _ _ _) rfl rfl (ld_blk m6_3 rfl)) ?_
                    refine xp_pure (i := 17) rfl (by kernel_rfl) (by kernel_rfl) rfl rfl rfl (pv_len_l rfl rfl) ?_
                    refine xp_dec (i := 18) rfl (by kernel_rfl) (by kernel_rfl) rfl rfl rfl (pv_gtr rfl rfl rfl) (fun h9_18 => ?_) (fun h9_18 => ?_)
                    · skip
                      refine xp_pure (i := 19) rfl (by kernel_rfl) (by kernel_rfl) rfl rfl rfl (pv_move (v := .bool _) rfl rfl) ?_
                      refine xp_pure (i := 20) rfl (by kernel_rfl) (by kernel_rfl) rfl rfl rfl (pv_move (v := .bool _) rfl rfl) ?_
                      refine xp_pure (i := 21) rfl (by kernel_rfl) (by kernel_rfl) rfl rfl rfl (pv_not rfl rfl) ?_
                      refine xp_pure (i := 22) rfl (by kernel_rfl) (by kernel_rfl) rfl rfl rfl (pv_pick_t (v := .bool _) rfl rfl rfl) ?_
                      refine xp_pure (i := 23) rfl (by kernel_rfl) (by kernel_rfl) rfl rfl rfl (pv_pick_f (v := .bool _) rfl rfl rfl) ?_
                      refine xp_pure (i := 24) rfl (by kernel_rfl) (by kernel_rfl) rfl rfl rfl (pv_move (v := .bool _) rfl rfl) ?_
                      refine xp_skip (i := 25) rfl (by kernel_rfl) (by kernel_rfl) rfl rfl rfl ?_
                      refine xp_skip (i := 26) rfl (by kernel_rfl) (by kernel_rfl) rfl rfl rfl ?_
                      refine xp_skip (i := 27) rfl (by kernel_rfl) (by kernel_rfl) rfl rfl rfl ?_
                      refine xp_skip (i := 28) rfl (by kernel_rfl) (by kernel_rfl) rfl rfl rfl ?_
                      refine xp_pure (i := 29) rfl (by kernel_rfl) (by kernel_rfl) rfl rfl rfl (pv_pick_t (v := .bool _) rfl rfl rfl) ?_
                      refine xp_done (by kernel_rfl) ?_
                      refine xthen_normal ?_
                      refine xc_cond_t rfl ?_
                      refine xc_seq ?_
                      refine xc_region ?_
                      refine xl_pure rfl rfl rfl (pv_assign (v := .pointer _) rfl rfl) ?_
                      refine xl_pure rfl rfl rfl (pv_assign (v := .int _ _) rfl rfl) ?_
                      refine xl_nil ?_
                      refine xthen_normal ?_
                      refine xc_ret ?_
                      refine xthen_ret ?_
                      refine xblock_ret ?_
                      refine xthen_ret ?_
                      refine xthen_ret ?_
                      refine xblock_ret ?_
                      refine xthen_ret ?_
                      refine fin_ret (res2 (v := .pointer _) (x := .int _ _) rfl rfl rfl) ?_
                      first
                        | exact ⟨.inr ⟨fun h => hi9_27 (h.at_ k hkE).2, rfl⟩, hX⟩
                        | exact ⟨.inr ⟨fun h => by obtain ⟨⟨p1, p2, p3⟩, p4⟩ := h.at_ k hkE; rcases Nat.eq_zero_or_pos (gE E k).wt.length with h0 | h0; omega; have := p3 h0; omega, rfl⟩, hX⟩
                    · skip
                      refine xp_pure (i := 19) rfl (by kernel_rfl) (by kernel_rfl) rfl rfl rfl (pv_move (v := .bool _) rfl rfl) ?_
                      refine xp_skip (i := 20) rfl (by kernel_rfl) (by kernel_rfl) rfl rfl rfl ?_
                      refine xp_skip (i := 21) rfl (by kernel_rfl) (by kernel_rfl) rfl rfl rfl ?_
                      refine xp_pure (i := 22) rfl (by kernel_rfl) (by kernel_rfl) rfl rfl rfl (pv_pick_f (v := .bool _) rfl rfl rfl) ?_
                      refine xp_pure (i := 23) rfl (by kernel_rfl) (by kernel_rfl) rfl rfl rfl (pv_pick_f (v := .bool _) rfl rfl rfl) ?_
                      refine xp_pure (i := 24) rfl (by kernel_rfl) (by kernel_rfl) rfl rfl rfl (pv_move (v := .bool _) rfl rfl) ?_
                      refine xp_pure (i := 25) rfl (by kernel_rfl) (by kernel_rfl) rfl rfl rfl (pv_fieldAddr rfl rfl) ?_
                      refine xp_light (i := 26) rfl (by kernel_rfl) (by kernel_rfl) rfl rfl rfl (lv_load (v := .slice _ _ _) rfl rfl (ld_blk m6_3 rfl)) ?_
                      refine xp_heavy (i := 27) (by kernel_rfl) ?_
                      refine xph_val rfl rfl rfl rfl (hv_call (g := 37) rfl rfl (sorted (((hE.get hkE).1.ints).ext hX) hes1) rfl) (pd (by kernel_rfl) (pk (by kernel_rfl) (pk (by kernel_rfl) (pk (by kernel_rfl) (pk (by kernel_rfl) pn))))) ?_
                      rintro v9_27 H9_27 ⟨hv9_27, rfl⟩
                      refine ⟨(okc (lv_load (v := .slice _ _ _) rfl rfl (ld_blk m6_3 rfl)) (okc (lv_load (v := .slice _ _ _) rfl rfl (ld_blk m6_3 rfl)) (okc (lv_load (v := .int _ _) rfl rfl (by exact ldE mg hkT 0 rfl)) (okc (lv_load (v := .slice _ _ _) rfl rfl (ld_blk m6_3 rfl)) okn)))), ?_⟩
                      rcases hv9_27 with ⟨hi9_27, rfl⟩ | ⟨hi9_27, rfl⟩
                      · skip
                        refine xp_pure (i := 28) rfl (by kernel_rfl) (by kernel_rfl) rfl rfl rfl (pv_not rfl rfl) ?_
                        refine xp_pure (i := 29) rfl (by kernel_rfl) (by kernel_rfl) rfl rfl rfl (pv_pick_f (v := .bool _) rfl rfl rfl) ?_
                        refine xp_done (by kernel_rfl) ?_
                        refine xthen_normal ?_
                        refine xc_cond_f rfl ?_
                        refine xc_skip ?_
                        refine xthen_normal ?_
                        exact ⟨(), ⟨rfl, rfl, rfl, rfl, rfl, rfl, rfl, trivial⟩, ⟨⟨by omega, by omega, fun h => ⟨by omega, by omega⟩⟩, hi9_27, mp, mg, m6_3, hm, hL, hX⟩⟩
                      · skip
                        refine xp_pure (i := 28) rfl (by kernel_rfl) (by kernel_rfl) rfl rfl rfl (pv_not rfl rfl) ?_
                        refine xp_pure (i := 29) rfl (by kernel_rfl) (by kernel_rfl) rfl rfl rfl (pv_pick_f (v := .bool _) rfl rfl rfl) ?_
                        refine xp_done (by kernel_rfl) ?_
                        refine xthen_normal ?_
                        refine xc_cond_t rfl ?_
                        refine xc_seq ?_
                        refine xc_region ?_
                        refine xl_pure rfl rfl rfl (pv_assign (v := .pointer _) rfl rfl) ?_
                        refine xl_pure rfl rfl rfl (pv_assign (v := .int _ _) rfl rfl) ?_
                        refine xl_nil ?_
                        refine xthen_normal ?_
                        refine xc_ret ?_
                        refine xthen_ret ?_
                        refine xblock_ret ?_
                        refine xthen_ret ?_
                        refine xthen_ret ?_
                        refine xblock_ret ?_
                        refine xthen_ret ?_
                        refine fin_ret (res2 (v := .pointer _) (x := .int _ _) rfl rfl rfl) ?_
                        first
                          | exact ⟨.inr ⟨fun h => hi9_27 (h.at_ k hkE).2, rfl⟩, hX⟩
                          | exact ⟨.inr ⟨fun h => by obtain ⟨⟨p1, p2, p3⟩, p4⟩ := h.at_ k hkE; rcases Nat.eq_zero_or_pos (gE E k).wt.length with h0 | h0; omega; have := p3 h0; omega, rfl⟩, hX⟩
              · intro σ
                clear hX mp hm hL mg m6_3
                rintro t Hm9 ⟨hlk, hso, mp, mg, m6_3, hm, hL, hX⟩
                replace hlk : lnOk ((sls l).getD k 0) (gE E k).rn (gE E k).wt := hlk
                replace hso : SrtI (gE E k).rn (gE E k).rn.length := hso
                replace mp : Blk Hm9 bp [.slice va E.length vc, .map (some m)] 52 := mp
                replace mg : Blk Hm9 gb (fE T ++ ex) 69 := mg
                replace m6_3 : Blk Hm9 b6_3 [.slice (gE E k).ra (gE E k).rn.length (gE E k).rc, .slice (gE E k).wa (gE E k).wt.length (gE E k).wc] 40 := m6_3
                replace hm : MapI Hm9 m g := hm
                replace hL : LS Hm9 (fun j => H.size ≤ j) T := hL
                replace hX : Ext H Hm9 := hX
                show XC _ _ _ (upds σ [(6, .pointer (some ⟨bp, 0, none⟩)), (8, .int .i64 (k : Nat)), (9, .pointer (some ⟨b6_3, 0, none⟩)), (10, .pointer (some ⟨gb, 0 + k * 3, none⟩)), (33, .slice xa E.length xc), (34, .int .i64 (E.length : Nat)), (35, .int .i64 (k : Nat))]) _
                refine xc_seq ?_
                refine xc_seq ?_
                refine xp_start rfl (by repeat (first | with_reducible exact np_fin | with_reducible exact np_ret | with_reducible refine np_then ?_ | with_reducible refine np_block ?_)) (by kernel_rfl) ?_
                refine xp_pure (i := 0) rfl (by kernel_rfl) (by kernel_rfl) rfl rfl rfl (pv_fieldAddr rfl rfl) ?_
                refine xp_light (i := 1) rfl (by kernel_rfl) (by kernel_rfl) rfl rfl rfl (lv_load (v := .slice _ _ _) rfl rfl (ld_blk m6_3 rfl)) ?_
                refine xp_pure (i := 3) rfl (by kernel_rfl) (by kernel_rfl) rfl rfl rfl (pv_fieldAddr rfl rfl) ?_
                refine xp_light (i := 4) rfl (by kernel_rfl) (by kernel_rfl) rfl rfl rfl (lv_load (v := .slice _ _ _) rfl rfl (ld_blk m6_3 rfl)) ?_
                refine xp_pure (i := 7) rfl (by kernel_rfl) (by kernel_rfl) rfl rfl rfl (pv_move (v := .int _ _) rfl rfl) ?_
                refine xp_heavy (i := 2) (by kernel_rfl) ?_
                refine xph_val rfl rfl rfl rfl (hv_call (g := 28) rfl rfl (cloneK rfl (((hE.get hkE).1.ints).ext hX) hes1) rfl) (pk (by kernel_rfl) (pd (by kernel_rfl) pn)) ?_
                rintro v11_2 H11_2 ⟨a11_2, c11_2, rfl, hI11_2, hB11_2, hE11_2⟩
                have hlt2 : ∀ k w j, k < T.length → bk (adE (gE T k) w) j → j < _ := fun k w j hk hj => (hL.io k hk w).lt hj
                have hge11_2 := hX.size
                have mp := mp.ext hE11_2
                have mg := mg.ext hE11_2
                have m6_3 := m6_3.ext hE11_2
                have hm := hm.ext hE11_2
                have hL := hL.ext hE11_2
                have hX := hX.trans hE11_2
                refine ⟨(okc (lv_load (v := .slice _ _ _) rfl rfl (ld_blk m6_3 rfl)) okn), ?_⟩
                refine xp_heavy (i := 5) (by kernel_rfl) ?_
                refine xph_val rfl rfl rfl rfl (hv_append_cells (size := 1) (news := ints (gE E k).wt) rfl rfl hI11_2 rfl (ints_len1 _) (ints_src (((hE.get hkE).2.ints).ext hX)) (ints_one1 _) rfl (by decide) (by omega) (by omega) (Nat.zero_le _)) (pd (by kernel_rfl) pn) ?_
                rintro v11_5 H11_5 ⟨hO11_5, hG11_5⟩
                have hK := gr_keep hG11_5
                have hmo := io_mapoff hI11_2 hm
                have hL := hL.keep hK (fun j hj k w hk h => by have := hlt2 k w j hk h; have := hB11_2 j hj; omega)
                have hX := hX.keep hK (fun i h => Nat.le_trans hge11_2 (hB11_2 i h))
                have hm := hm.keep hK hmo
                have mp := mp.keep hK (hI11_2.noty mp rfl)
                have mg := mg.keep hK (hI11_2.noty mg rfl)
                have m6_3 := m6_3.keep hK (hI11_2.noty m6_3 rfl)
                obtain ⟨a11_5, c11_5, rfl⟩ := hO11_5.val
                have hq := own_as hO11_5 jl_cat
                refine ⟨okn, ?_⟩
                refine xp_pure (i := 6) rfl (by kernel_rfl) (by kernel_rfl) rfl rfl rfl (pv_len_l rfl rfl) ?_
                refine xp_done (by kernel_rfl) ?_
                refine xthen_normal ?_
                refine xc_block ?_
                refine xc_loop (τ := Nat × Fn) (fun t => [(6, .pointer (some ⟨bp, 0, none⟩)), (8, .int .i64 (k : Nat)), (9, .pointer (some ⟨b6_3, 0, none⟩)), (10, .pointer (some ⟨gb, 0 + k * 3, none⟩)), (33, .slice xa E.length xc), (34, .int .i64 (E.length : Nat)), (35, .int .i64 (k : Nat)), (96, .slice a11_5 ((gE E k).rn.length + (gE E k).wt.length) c11_5), (97, .int .i64 (((gE E k).rn.length + (gE E k).wt.length) : Nat)), (98, .int .i64 (t.1 : Nat))]) (fun t H' => (t.1 ≤ ((gE E k).rn.length + (gE E k).wt.length)) ∧ (LdG l E k t.1) ∧ (CG E k ((jlE (gE E k)).take t.1) t.2) ∧ (Blk H' bp [.slice va E.length vc, .map (some m)] 52) ∧ (Blk H' gb (fE T ++ ex) 69) ∧ (Blk H' b6_3 [.slice (gE E k).ra (gE E k).rn.length (gE E k).rc, .slice (gE E k).wa (gE E k).wt.length (gE E k).wc] 40) ∧ (MapI H' m t.2) ∧ (LS H' (fun j => H.size ≤ j) T) ∧ (Own H' 0 3 1 (.slice a11_5 ((gE E k).rn.length + (gE E k).wt.length) c11_5) ((gE E k).rn.length + (gE E k).wt.length) (ints (jlE (gE E k)))) ∧ (Ext H H')) (fun t H' => ((gE E k).rn.length + (gE E k).wt.length) - t.1) (0, g) ?_ ?_ ?_
                · exact ⟨rfl, rfl, rfl, rfl, rfl, rfl, rfl, rfl, rfl, rfl, trivial⟩
                · skip
                  exact ⟨Nat.zero_le _, hg, by rw [List.take_zero]; exact hcg, mp, mg, m6_3, hm, hL, hq, hX⟩
                · intro σ
                  clear hX mp hm hL mg m6_3 hq hg hcg
                  rintro ⟨i, g⟩ Hl12 ⟨hi, hg, hcg, mp, mg, m6_3, hm, hL, hq, hX⟩
                  replace hi : i ≤ ((gE E k).rn.length + (gE E k).wt.length) := hi
                  replace hg : LdG l E k i := hg
                  replace hcg : CG E k ((jlE (gE E k)).take i) g := hcg
                  replace mp : Blk Hl12 bp [.slice va E.length vc, .map (some m)] 52 := mp
                  replace mg : Blk Hl12 gb (fE T ++ ex) 69 := mg
                  replace m6_3 : Blk Hl12 b6_3 [.slice (gE E k).ra (gE E k).rn.length (gE E k).rc, .slice (gE E k).wa (gE E k).wt.length (gE E k).wc] 40 := m6_3
                  replace hm : MapI Hl12 m g := hm
                  replace hL : LS Hl12 (fun j => H.size ≤ j) T := hL
                  replace hq : Own Hl12 0 3 1 (.slice a11_5 ((gE E k).rn.length + (gE E k).wt.length) c11_5) ((gE E k).rn.length + (gE E k).wt.length) (ints (jlE (gE E k))) := hq
                  replace hX : Ext H Hl12 := hX
                  show XC _ _ _ (upds σ [(6, .pointer (some ⟨bp, 0, none⟩)), (8, .int .i64 (k : Nat)), (9, .pointer (some ⟨b6_3, 0, none⟩)), (10, .pointer (some ⟨gb, 0 + k * 3, none⟩)), (33, .slice xa E.length xc), (34, .int .i64 (E.length : Nat)), (35, .int .i64 (k : Nat)), (96, .slice a11_5 ((gE E k).rn.length + (gE E k).wt.length) c11_5), (97, .int .i64 (((gE E k).rn.length + (gE E k).wt.length) : Nat)), (98, .int .i64 (i : Nat))]) _
                  refine xc_seq ?_
                  refine xc_region ?_
                  refine xl_dec rfl rfl rfl (pv_lss rfl rfl rfl) (fun h12_0 => ?_) (fun h12_0 => ?_)
                  · skip
                    refine xl_nil ?_
                    refine xthen_normal ?_
                    refine xc_seq ?_
                    refine xc_cond_t rfl ?_
                    refine xc_skip ?_
                    refine xthen_normal ?_
                    refine xc_seq ?_
                    refine xc_block ?_
                    refine xc_seq ?_
                    obtain ⟨gq, oq, hdq⟩ := (own_Ints hq).at'
                    refine xc_region ?_
                    refine xl_pure rfl rfl rfl (pv_indexAddr_l rfl (sl_eq (hdq (by omega)).1) rfl (by omega)) ?_
                    refine xl_light rfl rfl rfl (lv_load (v := .int _ _) rfl rfl (by exact ld_nth (k := i) (hdq (by omega)).2 (by omega))) ?_
                    refine xl_pure rfl rfl rfl (pv_assign (v := .int _ _) rfl rfl) ?_
                    refine xl_nil ?_
                    refine xthen_normal ?_
                    refine xc_seq ?_
                    refine xc_seq ?_
                    refine xc_region ?_
                    refine xl_pure rfl rfl rfl (pv_move (v := .pointer _) rfl rfl) ?_
                    refine xl_pure rfl rfl rfl (pv_nilCheck_p rfl rfl) ?_
                    refine xl_pure rfl rfl rfl (pv_fieldAddr rfl rfl) ?_
                    refine xl_light rfl rfl rfl (lv_load (v := .map _) rfl rfl (ld_blk mp rfl)) ?_
                    refine xl_pure rfl rfl rfl (pv_move (v := .int _ _) rfl rfl) ?_
                    rcases hof : g ((jlE (gE E k)).getD i 0) with _ | r
                    · skip
                      refine xl_light rfl rfl rfl (lv_lookI_n rfl rfl rfl hm hof) ?_
                      refine xl_pure rfl rfl rfl (pv_move (v := .tuple _) rfl rfl) ?_
                      refine xl_pure rfl rfl rfl (pv_extract (v := .int _ _) rfl rfl rfl) ?_
                      refine xl_pure rfl rfl rfl (pv_extract (v := .bool _) rfl rfl rfl) ?_
                      refine xl_pure rfl rfl rfl (pv_assign (v := .int _ _) rfl rfl) ?_
                      refine xl_pure rfl rfl rfl (pv_assign (v := .bool _) rfl rfl) ?_
                      refine xl_nil ?_
                      refine xthen_normal ?_
                      refine xc_seq ?_
                      refine xc_region ?_
                      refine xl_pure rfl rfl rfl (pv_move (v := .bool _) rfl rfl) ?_
                      refine xl_pure rfl rfl rfl (pv_move (v := .bool _) rfl rfl) ?_
                      refine xl_pure rfl rfl rfl (pv_move (v := .int _ _) rfl rfl) ?_
                      refine xl_heavy rfl rfl rfl (hv_call (g := 22) rfl rfl (isJob ((jlE (gE E k)).getD i 0)) rfl) ?_
                      rintro v15_3 H15_3 ⟨hv15_3, rfl⟩
                      rcases hv15_3 with ⟨hi15_3, rfl⟩ | ⟨hi15_3, rfl⟩
                      · skip
                        refine xl_pure rfl rfl rfl (pv_not rfl rfl) ?_
                        refine xl_pure rfl rfl rfl (pv_pick_f (v := .bool _) rfl rfl rfl) ?_
                        refine xl_nil ?_
                        refine xthen_normal ?_
                        refine xc_cond_f rfl ?_
                        refine xc_skip ?_
                        refine xthen_normal ?_
                        refine xc_region ?_
                        refine xl_pure rfl rfl rfl (pv_move (v := .pointer _) rfl rfl) ?_
                        refine xl_pure rfl rfl rfl (pv_nilCheck_p rfl rfl) ?_
                        refine xl_pure rfl rfl rfl (pv_fieldAddr rfl rfl) ?_
                        refine xl_light rfl rfl rfl (lv_load (v := .map _) rfl rfl (ld_blk mp rfl)) ?_
                        refine xl_pure rfl rfl rfl (pv_move (v := .int _ _) rfl rfl) ?_
                        refine xl_pure rfl rfl rfl (pv_move (v := .int _ _) rfl rfl) ?_
                        refine xl_store rfl rfl (hv_putI rfl rfl rfl rfl hm) ?_
                        rintro v17_6 H17_6 ⟨hm17_6, hU17_6⟩
                        have mp := mp.but hU17_6 (hm.blk mp).ne
                        have mg := mg.but hU17_6 (hm.blk mg).ne
                        have m6_3 := m6_3.but hU17_6 (hm.blk m6_3).ne
                        have hq := own_offI hq hm hU17_6
                        have hL := hL.offI hm hU17_6
                        have hX := hX.upd hU17_6 ⟨hGm.1⟩
                        have hm := hm17_6
                        refine xl_nil ?_
                        refine xblock_normal ?_
                        refine xthen_normal ?_
                        refine xc_region ?_
                        refine xl_pure rfl rfl rfl (pv_add rfl rfl rfl (fit_i64 (by omega))) ?_
                        refine xl_pure rfl rfl rfl (pv_move (v := .int _ _) rfl rfl) ?_
                        refine xl_nil ?_
                        refine xthen_normal ?_
                        exact ⟨(i + 1, _), ⟨rfl, rfl, rfl, rfl, rfl, rfl, rfl, rfl, rfl, rfl, trivial⟩, ⟨by (try simp only); omega, hg.step (by omega) hi15_3 (fun h => by obtain ⟨r, hr⟩ := (cg_mem hcg hkE).2 h; rw [hof] at hr; cases hr), by rw [take_gd (by omega)]; exact hcg.put2 (fun r hr => by rw [hof] at hr; cases hr), mp, mg, m6_3, hm, hL, hq, hX⟩, by (try simp only); omega⟩
                      · skip
                        refine xl_pure rfl rfl rfl (pv_not rfl rfl) ?_
                        refine xl_pure rfl rfl rfl (pv_pick_f (v := .bool _) rfl rfl rfl) ?_
                        refine xl_nil ?_
                        refine xthen_normal ?_
                        refine xc_cond_t rfl ?_
                        refine xc_seq ?_
                        refine xc_region ?_
                        refine xl_pure rfl rfl rfl (pv_assign (v := .pointer _) rfl rfl) ?_
                        refine xl_pure rfl rfl rfl (pv_assign (v := .int _ _) rfl rfl) ?_
                        refine xl_nil ?_
                        refine xthen_normal ?_
                        refine xc_ret ?_
                        refine xthen_ret ?_
                        refine xblock_ret ?_
                        refine xthen_ret ?_
                        refine xthen_ret ?_
                        refine xblock_ret ?_
                        refine xthen_ret ?_
                        refine xblock_ret ?_
                        refine xthen_ret ?_
                        refine xthen_ret ?_
                        refine xblock_ret ?_
                        refine xthen_ret ?_
                        refine fin_ret (res2 (v := .pointer _) (x := .int _ _) rfl rfl rfl) ?_
                        refine ⟨.inr ⟨fun h => ?_, rfl⟩, hX⟩
                        have hn := h.new hkE (i := i) (by omega)
                        first
                          | exact hn.2 ((cg_mem hcg hkE).1 ⟨_, hof⟩)
                          | exact hi15_3 hn.1
                    · skip
                      refine xl_light rfl rfl rfl (lv_lookI_s rfl rfl rfl hm hof) ?_
                      refine xl_pure rfl rfl rfl (pv_move (v := .tuple _) rfl rfl) ?_
                      refine xl_pure rfl rfl rfl (pv_extract (v := .int _ _) rfl rfl rfl) ?_
                      refine xl_pure rfl rfl rfl (pv_extract (v := .bool _) rfl rfl rfl) ?_
                      refine xl_pure rfl rfl rfl (pv_assign (v := .int _ _) rfl rfl) ?_
                      refine xl_pure rfl rfl rfl (pv_assign (v := .bool _) rfl rfl) ?_
                      refine xl_nil ?_
                      refine xthen_normal ?_
                      refine xc_seq ?_
                      refine xc_region ?_
                      refine xl_pure rfl rfl rfl (pv_move (v := .bool _) rfl rfl) ?_
                      refine xl_pure rfl rfl rfl (pv_move (v := .bool _) rfl rfl) ?_
                      refine xl_skip rfl rfl rfl ?_
                      refine xl_skip rfl rfl rfl ?_
                      refine xl_skip rfl rfl rfl ?_
                      refine xl_pure rfl rfl rfl (pv_pick_t (v := .bool _) rfl rfl rfl) ?_
                      refine xl_nil ?_
                      refine xthen_normal ?_
                      refine xc_cond_t rfl ?_
                      refine xc_seq ?_
                      refine xc_region ?_
                      refine xl_pure rfl rfl rfl (pv_assign (v := .pointer _) rfl rfl) ?_
                      refine xl_pure rfl rfl rfl (pv_assign (v := .int _ _) rfl rfl) ?_
                      refine xl_nil ?_
                      refine xthen_normal ?_
                      refine xc_ret ?_
                      refine xthen_ret ?_
                      refine xblock_ret ?_
                      refine xthen_ret ?_
                      refine xthen_ret ?_
                      refine xblock_ret ?_
                      refine xthen_ret ?_
                      refine xblock_ret ?_
                      refine xthen_ret ?_
                      refine xthen_ret ?_
                      refine xblock_ret ?_
                      refine xthen_ret ?_
                      refine fin_ret (res2 (v := .pointer _) (x := .int _ _) rfl rfl rfl) ?_
                      refine ⟨.inr ⟨fun h => ?_, rfl⟩, hX⟩
                      have hn := h.new hkE (i := i) (by omega)
                      first
                        | exact hn.2 ((cg_mem hcg hkE).1 ⟨_, hof⟩)
                        | exact hi15_3 hn.1
                  · skip
                    refine xl_nil ?_
                    refine xthen_normal ?_
                    refine xc_seq ?_
                    refine xc_cond_f rfl ?_
                    refine xc_exit ?_
                    refine xthen_exit ?_
                    refine xthen_exit ?_
                    refine xblock_same ?_
                    refine xthen_normal ?_
                    refine xp_start rfl (by repeat (first | with_reducible exact np_fin | with_reducible exact np_ret | with_reducible refine np_then ?_ | with_reducible refine np_block ?_)) (by kernel_rfl) ?_
                    refine xp_pure (i := 0) rfl (by kernel_rfl) (by kernel_rfl) rfl rfl rfl (pv_move (v := .pointer _) rfl rfl) ?_
                    refine xp_pure (i := 1) rfl (by kernel_rfl) (by kernel_rfl) rfl rfl rfl (pv_move (v := .pointer _) rfl rfl) ?_
                    refine xp_pure (i := 2) rfl (by kernel_rfl) (by kernel_rfl) rfl rfl rfl (pv_fieldAddr rfl rfl) ?_
                    refine xp_light (i := 3) rfl (by kernel_rfl) (by kernel_rfl) rfl rfl rfl (lv_load (v := .slice _ _ _) rfl rfl (ld_blk m6_3 rfl)) ?_
                    refine xp_pure (i := 5) rfl (by kernel_rfl) (by kernel_rfl) rfl rfl rfl (pv_fieldAddr rfl rfl) ?_
                    refine xp_light (i := 6) rfl (by kernel_rfl) (by kernel_rfl) rfl rfl rfl (lv_load (v := .slice _ _ _) rfl rfl (ld_blk m6_3 rfl)) ?_
                    refine xp_heavy (i := 4) (by kernel_rfl) ?_
                    refine xph_val rfl rfl rfl rfl (hv_call (g := 28) rfl rfl (cloneK rfl (((hE.get hkE).1.ints).ext hX) hes1) rfl) (pk (by kernel_rfl) (pd (by kernel_rfl) pn)) ?_
                    rintro v19_4 H19_4 ⟨a19_4, c19_4, rfl, hI19_4, hB19_4, hE19_4⟩
                    have hL9 := hL
                    have hgo := hL.off mg rfl
                    have hgs := hX.size
                    have hkf := (KeepF.refl (fun j => j = gb) _).transE hE19_4
                    have mp := mp.ext hE19_4
                    have mg := mg.ext hE19_4
                    have m6_3 := m6_3.ext hE19_4
                    have hm := hm.ext hE19_4
                    have hX := hX.trans hE19_4
                    refine ⟨(okc (lv_load (v := .slice _ _ _) rfl rfl (ld_blk m6_3 rfl)) okn), ?_⟩
                    refine xp_heavy (i := 7) (by kernel_rfl) ?_
                    refine xph_val rfl rfl rfl rfl (hv_call (g := 28) rfl rfl (cloneK rfl (((hE.get hkE).2.ints).ext hX) hes2) rfl) (pd (by kernel_rfl) pn) ?_
                    rintro v19_7 H19_7 ⟨a19_7, c19_7, rfl, hI19_7, hB19_7, hE19_7⟩
                    have hr1 : ∀ j, bk a19_4 j → j < _ := fun j hj => hI19_4.lt hj
                    have hkf := hkf.transE hE19_7
                    have hI19_4 := hI19_4.ext hE19_7
                    have mp := mp.ext hE19_7
                    have mg := mg.ext hE19_7
                    have m6_3 := m6_3.ext hE19_7
                    have hm := hm.ext hE19_7
                    have hX := hX.trans hE19_7
                    refine ⟨okn, ?_⟩
                    refine xp_pure (i := 8) rfl (by kernel_rfl) (by kernel_rfl) rfl rfl rfl (pv_nilCheck_p rfl rfl) ?_
                    refine xp_pure (i := 9) rfl (by kernel_rfl) (by kernel_rfl) rfl rfl rfl (pv_fieldAddr rfl rfl) ?_
                    refine xp_heavy (i := 10) (by kernel_rfl) ?_
                    refine xph_store rfl rfl rfl (hv_store (vs := [.slice a19_4 (gE E k).rn.length c19_4]) rfl rfl rfl mg rfl (by show 0 + k * 3 + 1 + 1 ≤ _; omega) rfl) pn ?_
                    rintro v19_10 H19_10 ⟨hU19_10, hZ19_10⟩
                    have mp := mp.but hU19_10.but (mp.ne mg rfl)
                    have m6_3 := m6_3.but hU19_10.but (m6_3.ne mg rfl)
                    have hm := hm.off hU19_10.but (Apart.symm (hm.blk mg))
                    have hI19_4 := hI19_4.but hU19_10.but (hI19_4.noty mg rfl)
                    have hI19_7 := hI19_7.but hU19_10.but (hI19_7.noty mg rfl)
                    have hX := hX.upd hU19_10.but ⟨hgb0⟩
                    have hkf := hkf.own hU19_10.but rfl
                    have mg := hU19_10.blk
                    refine ⟨okn, ?_⟩
                    refine xp_pure (i := 11) rfl (by kernel_rfl) (by kernel_rfl) rfl rfl rfl (pv_nilCheck_p rfl rfl) ?_
                    refine xp_pure (i := 12) rfl (by kernel_rfl) (by kernel_rfl) rfl rfl rfl (pv_fieldAddr rfl rfl) ?_
                    refine xp_heavy (i := 13) (by kernel_rfl) ?_
                    refine xph_store rfl rfl rfl (hv_store (vs := [.slice a19_7 (gE E k).wt.length c19_7]) rfl rfl rfl mg rfl (by rw [setRange_length]; show 0 + k * 3 + 2 + 1 ≤ _; omega) rfl) pn ?_
                    rintro v19_13 H19_13 ⟨hU19_13, hZ19_13⟩
                    have mp := mp.but hU19_13.but (mp.ne mg rfl)
                    have m6_3 := m6_3.but hU19_13.but (m6_3.ne mg rfl)
                    have hm := hm.off hU19_13.but (Apart.symm (hm.blk mg))
                    have hI19_4 := hI19_4.but hU19_13.but (hI19_4.noty mg rfl)
                    have hI19_7 := hI19_7.but hU19_13.but (hI19_7.noty mg rfl)
                    have hX := hX.upd hU19_13.but ⟨hgb0⟩
                    have hkf := hkf.own hU19_13.but rfl
                    have mg := hU19_13.blk
                    have mg2 := mg_as mg (set2_cells (a1 := a19_4) (l1 := (gE E k).rn) (c1 := c19_4) (a2 := a19_7) (l2 := (gE E k).wt) (c2 := c19_7) hkT)
                    have hL := LS.set2 hL9 hkT hkf hgo hI19_4 hI19_7 hB19_4 (fun j hj => Nat.le_trans hE19_4.size (hB19_7 j hj)) (fun j h1 h2 => by have := hr1 j h1; have := hB19_7 j h2; omega) (fun j hj => Nat.le_trans hgs hj)
                    refine ⟨okn, ?_⟩
                    refine xp_done (by kernel_rfl) ?_
                    refine xblock_normal ?_
                    refine xthen_normal ?_
                    refine xc_region ?_
                    refine xl_pure rfl rfl rfl (pv_add rfl rfl rfl (fit_i64 (by omega))) ?_
                    refine xl_pure rfl rfl rfl (pv_move (v := .int _ _) rfl rfl) ?_
                    refine xl_nil ?_
                    refine xthen_normal ?_
                    exact ⟨(k + 1, T.set k (sE (gE T k) (gE E k).rn a19_4 c19_4 (gE E k).wt a19_7 c19_7), g), ⟨rfl, rfl, rfl, rfl, trivial⟩, ⟨by (try simp only); omega, hTP.next hkT, hg.done hkE (by omega) (by have h1 := hlk.1; have h2 := hlk.2.1; omega) hlk hso, hcg.next (List.take_of_length_le (by omega)), mp, by rw [hae]; exact own_mk mg2 (Nat.zero_le _) (by rw [fE_len, List.length_set]; omega) (by rw [List.length_append, fE_len, List.length_set, ← fE_len, ← List.length_append]; exact hexl) hnc hcm, hm, hL, hX⟩, by (try simp only); omega⟩
          · skip
            refine xl_nil ?_
            refine xthen_normal ?_
            refine xc_seq ?_
            refine xc_cond_f rfl ?_
            refine xc_exit ?_
            refine xthen_exit ?_
            refine xthen_exit ?_
            refine xblock_same ?_
            refine xthen_normal ?_
            refine xc_seq ?_
            refine xc_region ?_
            refine xl_pure rfl rfl rfl (pv_move (v := .pointer _) rfl rfl) ?_
            refine xl_pure rfl rfl rfl (pv_assign (v := .pointer _) rfl rfl) ?_
            refine xl_pure rfl rfl rfl (pv_assign (v := .int _ _) rfl rfl) ?_
            refine xl_nil ?_
            refine xthen_normal ?_
            refine xc_ret ?_
            refine fin_ret (res2 (v := .pointer _) (x := .int _ _) rfl rfl rfl) ?_
            have hke : k = E.length := by omega
            have hld := hg.all hke hok hE2
            have hBB := load_BB (H0 := H) hTP.1 mp hO hm hL hGp.1 hGm.1 (fun j hj => (hGa j hj).1) (own_bkl hO)
            rw [hTP.done hke] at hBB
            exact ⟨.inl ⟨hld, bp, g, rfl, hBB, hcg.iff hke⟩, hX⟩
      · skip
        refine xl_pure rfl rfl rfl (pv_pick_f (v := .bool _) rfl rfl rfl) ?_
        refine xl_nil ?_
        refine xthen_normal ?_
        refine xc_cond_t rfl ?_
        refine xc_seq ?_
        refine xc_region ?_
        refine xl_pure rfl rfl rfl (pv_assign (v := .pointer _) rfl rfl) ?_
        refine xl_pure rfl rfl rfl (pv_assign (v := .int _ _) rfl rfl) ?_
        refine xl_nil ?_
        refine xthen_normal ?_
        refine xc_ret ?_
        refine xthen_ret ?_
        refine fin_ret (res2 (v := .pointer _) (x := .int _ _) rfl rfl rfl) ?_
        first
          | exact ⟨.inr ⟨fun h => hno h.ok, rfl⟩, hX⟩
          | exact ⟨.inr ⟨fun h => by have := h.len; omega, rfl⟩, hX⟩
    · exact absurd (by decide) h2_1
  · skip
    refine xl_pure rfl rfl rfl (pv_move (v := .tuple _) rfl rfl) ?_
    refine xl_pure rfl rfl rfl (pv_extract (v := .pointer _) rfl rfl rfl) ?_
    refine xl_pure rfl rfl rfl (pv_extract (v := .int _ _) rfl rfl rfl) ?_
    refine xl_pure rfl rfl rfl (pv_assign (v := .pointer _) rfl rfl) ?_
    refine xl_pure rfl rfl rfl (pv_assign (v := .int _ _) rfl rfl) ?_
    refine xl_nil ?_
    refine xthen_normal ?_
    refine xc_seq ?_
    refine xc_seq ?_
    refine xc_region ?_
    refine xl_pure rfl rfl rfl (pv_move (v := .int _ _) rfl rfl) ?_
    refine xl_ndec rfl rfl rfl (pv_neq rfl rfl rfl) (fun h2_1 => ?_) (fun h2_1 => ?_)
    · exact absurd h2_1 (by decide)
    · skip
      refine xl_pure rfl rfl rfl (pv_move (v := .bool _) rfl rfl) ?_
      refine xl_skip rfl rfl rfl ?_
      refine xl_skip rfl rfl rfl ?_
      refine xl_skip rfl rfl rfl ?_
      refine xl_skip rfl rfl rfl ?_
      refine xl_skip rfl rfl rfl ?_
      refine xl_skip rfl rfl rfl ?_
      refine xl_skip rfl rfl rfl ?_
      refine xl_skip rfl rfl rfl ?_
      refine xl_pure rfl rfl rfl (pv_pick_t (v := .bool _) rfl rfl rfl) ?_
      refine xl_nil ?_
      refine xthen_normal ?_
      refine xc_cond_t rfl ?_
      refine xc_seq ?_
      refine xc_region ?_
      refine xl_pure rfl rfl rfl (pv_assign (v := .pointer _) rfl rfl) ?_
      refine xl_pure rfl rfl rfl (pv_assign (v := .int _ _) rfl rfl) ?_
      refine xl_nil ?_
      refine xthen_normal ?_
      refine xc_ret ?_
      refine xthen_ret ?_
      refine fin_ret (res2 (v := .pointer _) (x := .int _ _) rfl rfl rfl) ?_
      first
        | exact ⟨.inr ⟨fun h => hno h.ok, rfl⟩, hX⟩
        | exact ⟨.inr ⟨fun h => by have := h.len; omega, rfl⟩, hX⟩
end Go.XG
