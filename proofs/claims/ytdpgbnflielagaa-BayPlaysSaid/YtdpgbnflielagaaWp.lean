/-
  Walks of the seat's functions over the logic XG: each function, what it computes. Printed by a program out of wip/walks.py.
-/
import Derived.Test.YtdpgbnflielagaaI
import Derived.Test.YtdpgbnflielagaaN
import Derived.Test.YtdpgbnflielagaaDm
import Derived.Test.YtdpgbnflielagaaWa
import Derived.Test.YtdpgbnflielagaaWb
import Derived.Test.YtdpgbnflielagaaWc
import Derived.Test.YtdpgbnflielagaaWd
import Derived.Test.YtdpgbnflielagaaWe
import Derived.Test.YtdpgbnflielagaaWf
import Derived.Test.YtdpgbnflielagaaWg
import Derived.Test.YtdpgbnflielagaaWh
import Derived.Test.YtdpgbnflielagaaWi
import Derived.Test.YtdpgbnflielagaaWj
import Derived.Test.YtdpgbnflielagaaWk
import Derived.Test.YtdpgbnflielagaaWl
import Derived.Test.YtdpgbnflielagaaWm
import Derived.Test.YtdpgbnflielagaaWo
namespace Go.XG
open Go.Proofs
set_option maxRecDepth 4000
set_option maxHeartbeats 4000000
theorem dput {O : Outer} {H : Heap} {a : Option Addr} {c : Nat} {l : List Int} (hs : Ints H a l) (hA : Asc l) {x : Int} (hn : ¬ x ∈ l) (hl : l.length < 1000) {B : Nat} (hB : B ≤ H.size) :
    FnC Try.prog 46 #[.slice a l.length c, .int .i64 x] O H (fun v H' => ∃ a' c', v = .slice a' (insI l x).length c' ∧ Own H' B 3 1 (.slice a' (insI l x).length c') (insI l x).length (ints (insI l x)) ∧ Ext H H') := by
  obtain ⟨ba, off, hae⟩ := hs.at'
  refine fn_enter (A := [.slice a l.length c, .int .i64 x]) Try.func46 rfl rfl ?_
  have hX := Ext.refl H
  refine xc_seq ?_
  refine xc_region ?_
  refine xl_pure rfl rfl rfl (pv_assign (v := .slice _ _ _) rfl rfl) ?_
  refine xl_nil ?_
  refine xthen_normal ?_
  refine xc_seq ?_
  refine xc_region ?_
  refine xl_pure rfl rfl rfl (pv_assign (v := .slice _ _ _) rfl rfl) ?_
  refine xl_nil ?_
  refine xthen_normal ?_
  refine xc_seq ?_
  refine xc_region ?_
  refine xl_pure rfl rfl rfl (pv_assign (v := .bool _) rfl rfl) ?_
  refine xl_nil ?_
  refine xthen_normal ?_
  refine xc_seq ?_
  refine xc_seq ?_
  refine xc_region ?_
  refine xl_pure rfl rfl rfl (pv_assign (v := .int _ _) rfl rfl) ?_
  refine xl_nil ?_
  refine xthen_normal ?_
  refine xc_block ?_
  refine xc_loop (τ := Nat × Bool × List Int × Value) (fun t => [(0, .slice a l.length c), (1, .int .i64 x), (5, t.2.2.2), (6, .bool t.2.1), (7, .int .i64 (t.1 : Nat))]) (fun t H' => (t.1 ≤ l.length) ∧ (PO l x t.1 t.2.1 t.2.2.1) ∧ (t.2.2.1.length ≤ t.1 + 1) ∧ (Own H' H.size 3 1 t.2.2.2 t.2.2.1.length (ints t.2.2.1)) ∧ (Ext H H')) (fun t H' => l.length - t.1) (0, false, [], .slice none 0 0) ?_ ?_ ?_
  · exact ⟨rfl, rfl, rfl, rfl, rfl, trivial⟩
  · skip
    exact ⟨Nat.zero_le _, .inl ⟨rfl, Nat.zero_le _, rfl⟩, Nat.zero_le _, Own.nil .., hX⟩
  · intro σ
    clear hX
    rintro ⟨k, d, out, vo5⟩ Hl4 ⟨hk, hd, hol, ho, hX⟩
    replace hk : k ≤ l.length := hk
    replace hd : PO l x k d out := hd
    replace hol : out.length ≤ k + 1 := hol
    replace ho : Own Hl4 H.size 3 1 vo5 out.length (ints out) := ho
    replace hX : Ext H Hl4 := hX
    obtain ⟨va5, vc5, rfl⟩ := ho.val
    show XC _ _ _ (upds σ [(0, .slice a l.length c), (1, .int .i64 x), (5, .slice va5 out.length vc5), (6, .bool d), (7, .int .i64 (k : Nat))]) _
    refine xc_seq ?_
    refine xc_seq ?_
    refine xc_region ?_
    refine xl_pure rfl rfl rfl (pv_move (v := .int _ _) rfl rfl) ?_
    refine xl_pure rfl rfl rfl (pv_move (v := .slice _ _ _) rfl rfl) ?_
    refine xl_pure rfl rfl rfl (pv_len_l rfl rfl) ?_
    refine xl_dec rfl rfl rfl (pv_lss rfl rfl rfl) (fun h4_3 => ?_) (fun h4_3 => ?_)
    · skip
      refine xl_nil ?_
      refine xthen_normal ?_
      refine xc_cond_t rfl ?_
      refine xc_skip ?_
      refine xthen_normal ?_
      refine xc_seq ?_
      refine xc_block ?_
      refine xc_seq ?_
      refine xc_seq ?_
      refine xc_region ?_
      rcases hd with ⟨rfl, hd1, hd2⟩ | ⟨rfl, hd1, hd2⟩
      · skip
        refine xl_pure rfl rfl rfl (pv_move rfl rfl) ?_
        refine xl_pure rfl rfl rfl (pv_not rfl rfl) ?_
        refine xl_pure rfl rfl rfl (pv_move (v := .bool _) rfl rfl) ?_
        refine xl_pure rfl rfl rfl (pv_move (v := .int _ _) rfl rfl) ?_
        refine xl_pure rfl rfl rfl (pv_move (v := .slice _ _ _) rfl rfl) ?_
        refine xl_pure rfl rfl rfl (pv_move (v := .int _ _) rfl rfl) ?_
        refine xl_pure rfl rfl rfl (pv_indexAddr_l rfl (sl_eq (hae (by omega)).1) rfl (by omega)) ?_
        refine xl_light rfl rfl rfl (lv_load (v := .int _ _) rfl rfl (by exact ld_nth ((hae (by omega)).2.ext hX) (by omega))) ?_
        refine xl_dec rfl rfl rfl (pv_lss rfl rfl rfl) (fun h6_8 => ?_) (fun h6_8 => ?_)
        · skip
          refine xl_pure rfl rfl rfl (pv_pick_t (v := .bool _) rfl rfl rfl) ?_
          refine xl_nil ?_
          refine xthen_normal ?_
          refine xc_cond_t rfl ?_
          refine xc_seq ?_
          refine xc_region ?_
          refine xl_pure rfl rfl rfl (pv_move (v := .slice _ _ _) rfl rfl) ?_
          refine xl_pure rfl rfl rfl (pv_move (v := .int _ _) rfl rfl) ?_
          refine xl_heavy rfl rfl rfl (hv_buildSlice (cs := [.int _ _]) rfl rfl rfl rfl rfl) ?_
          rintro v7_2 H7_2 ⟨b7_2, rfl, hN7_2⟩
          have gb7_2 := hX.fresh hN7_2
          have pm7_2_ho := ho.apartN hN7_2
          have ho := ho.ext hN7_2.ext
          have hX := hX.trans hN7_2.ext
          have m7_2 := hN7_2.blk
          refine xl_heavy rfl rfl rfl (hv_append rfl rfl ho rfl (m7_2.row) rfl (by simp [Value.oneCell']) rfl (by decide) (by omega) (by omega) hX.size) ?_
          rintro v7_3 H7_3 ⟨hO7_3, hG7_3, -, hB7_3⟩
          have hX := ho.grown hX hG7_3 (Nat.le_refl _)
          obtain ⟨a7_3, c7_3, rfl⟩ := hO7_3.val
          refine xl_pure rfl rfl rfl (pv_assign (v := .slice _ _ _) rfl rfl) ?_
          refine xl_nil ?_
          refine xthen_normal ?_
          refine xc_region ?_
          refine xl_pure rfl rfl rfl (pv_assign (v := .bool _) rfl rfl) ?_
          refine xl_nil ?_
          refine xthen_normal ?_
          refine xc_region ?_
          refine xl_pure rfl rfl rfl (pv_move (v := .slice _ _ _) rfl rfl) ?_
          refine xl_pure rfl rfl rfl (pv_move (v := .slice _ _ _) rfl rfl) ?_
          refine xl_pure rfl rfl rfl (pv_move (v := .int _ _) rfl rfl) ?_
          refine xl_pure rfl rfl rfl (pv_indexAddr_l rfl (sl_eq (hae (by omega)).1) rfl (by omega)) ?_
          refine xl_light rfl rfl rfl (lv_load (v := .int _ _) rfl rfl (by exact ld_nth ((hae (by omega)).2.ext hX) (by omega))) ?_
          refine xl_heavy rfl rfl rfl (hv_buildSlice (cs := [.int _ _]) rfl rfl rfl rfl rfl) ?_
          rintro v9_5 H9_5 ⟨b9_5, rfl, hN9_5⟩
          have gb9_5 := hX.fresh hN9_5
          have pm9_5_hO7_3 := hO7_3.apartN hN9_5
          have hO7_3 := hO7_3.ext hN9_5.ext
          have hX := hX.trans hN9_5.ext
          have m9_5 := hN9_5.blk
          refine xl_heavy rfl rfl rfl (hv_append rfl rfl hO7_3 rfl (m9_5.row) rfl (by simp [Value.oneCell']) rfl (by decide) (by omega) (by omega) hX.size) ?_
          rintro v9_6 H9_6 ⟨hO9_6, hG9_6, -, hB9_6⟩
          have hX := hO7_3.grown hX hG9_6 (Nat.le_refl _)
          obtain ⟨a9_6, c9_6, rfl⟩ := hO9_6.val
          refine xl_pure rfl rfl rfl (pv_assign (v := .slice _ _ _) rfl rfl) ?_
          refine xl_nil ?_
          refine xblock_normal ?_
          refine xthen_normal ?_
          refine xc_region ?_
          refine xl_pure rfl rfl rfl (pv_move (v := .int _ _) rfl rfl) ?_
          refine xl_pure rfl rfl rfl (pv_add rfl rfl rfl (fit_i64 (by omega))) ?_
          refine xl_pure rfl rfl rfl (pv_assign (v := .int _ _) rfl rfl) ?_
          refine xl_nil ?_
          refine xthen_normal ?_
          first
            | exact ⟨(k + 1, false, out ++ [l.getD k 0], _), ⟨rfl, rfl, rfl, rfl, rfl, trivial⟩, ⟨by (try simp only); omega, po_a hd1 hd2 hA hn (by omega) h6_8, by rw [List.length_append]; show _ + 1 ≤ _; omega, by simpa [ints] using hO9_6, hX⟩, by (try simp only); omega⟩
            | exact ⟨(k + 1, true, out ++ [x] ++ [l.getD k 0], _), ⟨rfl, rfl, rfl, rfl, rfl, trivial⟩, ⟨by (try simp only); omega, po_b hd1 hd2 hA (by omega) h6_8, by have hq := hd1; rw [List.length_append, List.length_append, hd2, List.length_take]; show min k l.length + 1 + 1 ≤ _; omega, by simpa [ints] using hO9_6, hX⟩, by (try simp only); omega⟩
            | exact ⟨(k + 1, true, out ++ [l.getD k 0], _), ⟨rfl, rfl, rfl, rfl, rfl, trivial⟩, ⟨by (try simp only); omega, po_c hd1 hd2 (by omega), by rw [List.length_append]; show _ + 1 ≤ _; omega, by simpa [ints] using hO9_6, hX⟩, by (try simp only); omega⟩
        · skip
          refine xl_pure rfl rfl rfl (pv_pick_t (v := .bool _) rfl rfl rfl) ?_
          refine xl_nil ?_
          refine xthen_normal ?_
          refine xc_cond_f rfl ?_
          refine xc_skip ?_
          refine xthen_normal ?_
          refine xc_region ?_
          refine xl_pure rfl rfl rfl (pv_move (v := .slice _ _ _) rfl rfl) ?_
          refine xl_pure rfl rfl rfl (pv_move (v := .slice _ _ _) rfl rfl) ?_
          refine xl_pure rfl rfl rfl (pv_move (v := .int _ _) rfl rfl) ?_
          refine xl_pure rfl rfl rfl (pv_indexAddr_l rfl (sl_eq (hae (by omega)).1) rfl (by omega)) ?_
          refine xl_light rfl rfl rfl (lv_load (v := .int _ _) rfl rfl (by exact ld_nth ((hae (by omega)).2.ext hX) (by omega))) ?_
          refine xl_heavy rfl rfl rfl (hv_buildSlice (cs := [.int _ _]) rfl rfl rfl rfl rfl) ?_
          rintro v9_5 H9_5 ⟨b9_5, rfl, hN9_5⟩
          have gb9_5 := hX.fresh hN9_5
          have pm9_5_ho := ho.apartN hN9_5
          have ho := ho.ext hN9_5.ext
          have hX := hX.trans hN9_5.ext
          have m9_5 := hN9_5.blk
          refine xl_heavy rfl rfl rfl (hv_append rfl rfl ho rfl (m9_5.row) rfl (by simp [Value.oneCell']) rfl (by decide) (by omega) (by omega) hX.size) ?_
          rintro v9_6 H9_6 ⟨hO9_6, hG9_6, -, hB9_6⟩
          have hX := ho.grown hX hG9_6 (Nat.le_refl _)
          obtain ⟨a9_6, c9_6, rfl⟩ := hO9_6.val
          refine xl_pure rfl rfl rfl (pv_assign (v := .slice _ _ _) rfl rfl) ?_
          refine xl_nil ?_
          refine xblock_normal ?_
          refine xthen_normal ?_
          refine xc_region ?_
          refine xl_pure rfl rfl rfl (pv_move (v := .int _ _) rfl rfl) ?_
          refine xl_pure rfl rfl rfl (pv_add rfl rfl rfl (fit_i64 (by omega))) ?_
          refine xl_pure rfl rfl rfl (pv_assign (v := .int _ _) rfl rfl) ?_
          refine xl_nil ?_
          refine xthen_normal ?_
          first
            | exact ⟨(k + 1, false, out ++ [l.getD k 0], _), ⟨rfl, rfl, rfl, rfl, rfl, trivial⟩, ⟨by (try simp only); omega, po_a hd1 hd2 hA hn (by omega) h6_8, by rw [List.length_append]; show _ + 1 ≤ _; omega, by simpa [ints] using hO9_6, hX⟩, by (try simp only); omega⟩
            | exact ⟨(k + 1, true, out ++ [x] ++ [l.getD k 0], _), ⟨rfl, rfl, rfl, rfl, rfl, trivial⟩, ⟨by (try simp only); omega, po_b hd1 hd2 hA (by omega) h6_8, by have hq := hd1; rw [List.length_append, List.length_append, hd2, List.length_take]; show min k l.length + 1 + 1 ≤ _; omega, by simpa [ints] using hO9_6, hX⟩, by (try simp only); omega⟩
            | exact ⟨(k + 1, true, out ++ [l.getD k 0], _), ⟨rfl, rfl, rfl, rfl, rfl, trivial⟩, ⟨by (try simp only); omega, po_c hd1 hd2 (by omega), by rw [List.length_append]; show _ + 1 ≤ _; omega, by simpa [ints] using hO9_6, hX⟩, by (try simp only); omega⟩
      · skip
        refine xl_pure rfl rfl rfl (pv_move rfl rfl) ?_
        refine xl_pure rfl rfl rfl (pv_not rfl rfl) ?_
        refine xl_pure rfl rfl rfl (pv_move (v := .bool _) rfl rfl) ?_
        refine xl_skip rfl rfl rfl ?_
        refine xl_skip rfl rfl rfl ?_
        refine xl_skip rfl rfl rfl ?_
        refine xl_skip rfl rfl rfl ?_
        refine xl_skip rfl rfl rfl ?_
        refine xl_skip rfl rfl rfl ?_
        refine xl_pure rfl rfl rfl (pv_pick_f (v := .bool _) rfl rfl rfl) ?_
        refine xl_nil ?_
        refine xthen_normal ?_
        refine xc_cond_f rfl ?_
        refine xc_skip ?_
        refine xthen_normal ?_
        refine xc_region ?_
        refine xl_pure rfl rfl rfl (pv_move (v := .slice _ _ _) rfl rfl) ?_
        refine xl_pure rfl rfl rfl (pv_move (v := .slice _ _ _) rfl rfl) ?_
        refine xl_pure rfl rfl rfl (pv_move (v := .int _ _) rfl rfl) ?_
        refine xl_pure rfl rfl rfl (pv_indexAddr_l rfl (sl_eq (hae (by omega)).1) rfl (by omega)) ?_
        refine xl_light rfl rfl rfl (lv_load (v := .int _ _) rfl rfl (by exact ld_nth ((hae (by omega)).2.ext hX) (by omega))) ?_
        refine xl_heavy rfl rfl rfl (hv_buildSlice (cs := [.int _ _]) rfl rfl rfl rfl rfl) ?_
        rintro v9_5 H9_5 ⟨b9_5, rfl, hN9_5⟩
        have gb9_5 := hX.fresh hN9_5
        have pm9_5_ho := ho.apartN hN9_5
        have ho := ho.ext hN9_5.ext
        have hX := hX.trans hN9_5.ext
        have m9_5 := hN9_5.blk
        refine xl_heavy rfl rfl rfl (hv_append rfl rfl ho rfl (m9_5.row) rfl (by simp [Value.oneCell']) rfl (by decide) (by omega) (by omega) hX.size) ?_
        rintro v9_6 H9_6 ⟨hO9_6, hG9_6, -, hB9_6⟩
        have hX := ho.grown hX hG9_6 (Nat.le_refl _)
        obtain ⟨a9_6, c9_6, rfl⟩ := hO9_6.val
        refine xl_pure rfl rfl rfl (pv_assign (v := .slice _ _ _) rfl rfl) ?_
        refine xl_nil ?_
        refine xblock_normal ?_
        refine xthen_normal ?_
        refine xc_region ?_
        refine xl_pure rfl rfl rfl (pv_move (v := .int _ _) rfl rfl) ?_
        refine xl_pure rfl rfl rfl (pv_add rfl rfl rfl (fit_i64 (by omega))) ?_
        refine xl_pure rfl rfl rfl (pv_assign (v := .int _ _) rfl rfl) ?_
        refine xl_nil ?_
        refine xthen_normal ?_
        first
          | exact ⟨(k + 1, false, out ++ [l.getD k 0], _), ⟨rfl, rfl, rfl, rfl, rfl, trivial⟩, ⟨by (try simp only); omega, po_a hd1 hd2 hA hn (by omega) h6_8, by rw [List.length_append]; show _ + 1 ≤ _; omega, by simpa [ints] using hO9_6, hX⟩, by (try simp only); omega⟩
          | exact ⟨(k + 1, true, out ++ [x] ++ [l.getD k 0], _), ⟨rfl, rfl, rfl, rfl, rfl, trivial⟩, ⟨by (try simp only); omega, po_b hd1 hd2 hA (by omega) h6_8, by have hq := hd1; rw [List.length_append, List.length_append, hd2, List.length_take]; show min k l.length + 1 + 1 ≤ _; omega, by simpa [ints] using hO9_6, hX⟩, by (try simp only); omega⟩
          | exact ⟨(k + 1, true, out ++ [l.getD k 0], _), ⟨rfl, rfl, rfl, rfl, rfl, trivial⟩, ⟨by (try simp only); omega, po_c hd1 hd2 (by omega), by rw [List.length_append]; show _ + 1 ≤ _; omega, by simpa [ints] using hO9_6, hX⟩, by (try simp only); omega⟩
    · skip
      refine xl_nil ?_
      refine xthen_normal ?_
      refine xc_cond_f rfl ?_
      refine xc_exit ?_
      refine xthen_exit ?_
      refine xthen_exit ?_
      refine xblock_same ?_
      refine xthen_normal ?_
      refine xc_seq ?_
      refine xc_seq ?_
      refine xc_region ?_
      have hkl : k = l.length := by omega
      subst hkl
      rcases hd with ⟨rfl, hd1, hd2⟩ | ⟨rfl, hd1, hd2⟩
      · skip
        refine xl_pure rfl rfl rfl (pv_move rfl rfl) ?_
        refine xl_pure rfl rfl rfl (pv_not rfl rfl) ?_
        refine xl_nil ?_
        refine xthen_normal ?_
        refine xc_cond_t rfl ?_
        refine xc_region ?_
        refine xl_pure rfl rfl rfl (pv_move (v := .slice _ _ _) rfl rfl) ?_
        refine xl_pure rfl rfl rfl (pv_move (v := .int _ _) rfl rfl) ?_
        refine xl_heavy rfl rfl rfl (hv_buildSlice (cs := [.int _ _]) rfl rfl rfl rfl rfl) ?_
        rintro v11_2 H11_2 ⟨b11_2, rfl, hN11_2⟩
        have gb11_2 := hX.fresh hN11_2
        have pm11_2_ho := ho.apartN hN11_2
        have ho := ho.ext hN11_2.ext
        have hX := hX.trans hN11_2.ext
        have m11_2 := hN11_2.blk
        refine xl_heavy rfl rfl rfl (hv_append rfl rfl ho rfl (m11_2.row) rfl (by simp [Value.oneCell']) rfl (by decide) (by omega) (by omega) hX.size) ?_
        rintro v11_3 H11_3 ⟨hO11_3, hG11_3, -, hB11_3⟩
        have hX := ho.grown hX hG11_3 (Nat.le_refl _)
        obtain ⟨a11_3, c11_3, rfl⟩ := hO11_3.val
        refine xl_pure rfl rfl rfl (pv_assign (v := .slice _ _ _) rfl rfl) ?_
        refine xl_nil ?_
        refine xthen_normal ?_
        refine xc_seq ?_
        refine xc_region ?_
        refine xl_pure rfl rfl rfl (pv_move (v := .slice _ _ _) rfl rfl) ?_
        refine xl_pure rfl rfl rfl (pv_assign (v := .slice _ _ _) rfl rfl) ?_
        refine xl_nil ?_
        refine xthen_normal ?_
        refine xc_ret ?_
        refine fin_ret (res1 (v := .slice _ _ _) rfl rfl) ?_
        first
          | (have e := po_e1 hd1 hd2; have hO := own_le hO11_3 hB; have hh : out.length + 1 = (insI l x).length := (by rw [← e, List.length_append]; rfl); rw [hh] at hO; exact ⟨_, _, slv hh, by rw [show ints (insI l x) = ints out ++ [.int .i64 x] from (by rw [← e]; simp [ints])]; exact hO, hX⟩)
          | (have e := po_e2 hd2; have hO := own_le ho hB; rw [e] at hO; exact ⟨_, _, slv (by rw [e]), hO, hX⟩)
      · skip
        refine xl_pure rfl rfl rfl (pv_move rfl rfl) ?_
        refine xl_pure rfl rfl rfl (pv_not rfl rfl) ?_
        refine xl_nil ?_
        refine xthen_normal ?_
        refine xc_cond_f rfl ?_
        refine xc_skip ?_
        refine xthen_normal ?_
        refine xc_seq ?_
        refine xc_region ?_
        refine xl_pure rfl rfl rfl (pv_move (v := .slice _ _ _) rfl rfl) ?_
        refine xl_pure rfl rfl rfl (pv_assign (v := .slice _ _ _) rfl rfl) ?_
        refine xl_nil ?_
        refine xthen_normal ?_
        refine xc_ret ?_
        refine fin_ret (res1 (v := .slice _ _ _) rfl rfl) ?_
        first
          | (have e := po_e1 hd1 hd2; have hO := own_le hO11_3 hB; have hh : out.length + 1 = (insI l x).length := (by rw [← e, List.length_append]; rfl); rw [hh] at hO; exact ⟨_, _, slv hh, by rw [show ints (insI l x) = ints out ++ [.int .i64 x] from (by rw [← e]; simp [ints])]; exact hO, hX⟩)
          | (have e := po_e2 hd2; have hO := own_le ho hB; rw [e] at hO; exact ⟨_, _, slv (by rw [e]), hO, hX⟩)

theorem dwout {O : Outer} {H : Heap} {a : Option Addr} {c : Nat} {l : List Int} (hs : Ints H a l) (hl : l.length < 1000) {x : Int} {B : Nat} (hB : B ≤ H.size) :
    FnC Try.prog 47 #[.slice a l.length c, .int .i64 x] O H (fun v H' => ∃ a' c', v = .slice a' (dlI l x).length c' ∧ Own H' B 3 1 (.slice a' (dlI l x).length c') (dlI l x).length (ints (dlI l x)) ∧ Ext H H') := by
  obtain ⟨ba, off, hae⟩ := hs.at'
  refine fn_enter (A := [.slice a l.length c, .int .i64 x]) Try.func47 rfl rfl ?_
  have hX := Ext.refl H
  refine xc_seq ?_
  refine xc_region ?_
  refine xl_pure rfl rfl rfl (pv_assign (v := .slice _ _ _) rfl rfl) ?_
  refine xl_nil ?_
  refine xthen_normal ?_
  refine xc_seq ?_
  refine xc_region ?_
  refine xl_pure rfl rfl rfl (pv_assign (v := .slice _ _ _) rfl rfl) ?_
  refine xl_nil ?_
  refine xthen_normal ?_
  refine xc_seq ?_
  refine xc_seq ?_
  refine xc_region ?_
  refine xl_pure rfl rfl rfl (pv_assign (v := .int _ _) rfl rfl) ?_
  refine xl_nil ?_
  refine xthen_normal ?_
  refine xc_block ?_
  refine xc_loop (τ := Nat × List Int × Value) (fun t => [(0, .slice a l.length c), (1, .int .i64 x), (5, t.2.2), (6, .int .i64 (t.1 : Nat))]) (fun t H' => (t.1 ≤ l.length) ∧ (t.2.1 = dlI (l.take t.1) x) ∧ (t.2.1.length ≤ t.1) ∧ (Own H' H.size 3 1 t.2.2 t.2.1.length (ints t.2.1)) ∧ (Ext H H')) (fun t H' => l.length - t.1) (0, [], .slice none 0 0) ?_ ?_ ?_
  · exact ⟨rfl, rfl, rfl, rfl, trivial⟩
  · skip
    exact ⟨Nat.zero_le _, rfl, Nat.zero_le _, Own.nil .., hX⟩
  · intro σ
    clear hX
    rintro ⟨k, out, vo5⟩ Hl3 ⟨hk, hd, hol, ho, hX⟩
    replace hk : k ≤ l.length := hk
    replace hd : out = dlI (l.take k) x := hd
    replace hol : out.length ≤ k := hol
    replace ho : Own Hl3 H.size 3 1 vo5 out.length (ints out) := ho
    replace hX : Ext H Hl3 := hX
    obtain ⟨va5, vc5, rfl⟩ := ho.val
    show XC _ _ _ (upds σ [(0, .slice a l.length c), (1, .int .i64 x), (5, .slice va5 out.length vc5), (6, .int .i64 (k : Nat))]) _
    refine xc_seq ?_
    refine xc_seq ?_
    refine xc_region ?_
    refine xl_pure rfl rfl rfl (pv_move (v := .int _ _) rfl rfl) ?_
    refine xl_pure rfl rfl rfl (pv_move (v := .slice _ _ _) rfl rfl) ?_
    refine xl_pure rfl rfl rfl (pv_len_l rfl rfl) ?_
    refine xl_dec rfl rfl rfl (pv_lss rfl rfl rfl) (fun h3_3 => ?_) (fun h3_3 => ?_)
    · skip
      refine xl_nil ?_
      refine xthen_normal ?_
      refine xc_cond_t rfl ?_
      refine xc_skip ?_
      refine xthen_normal ?_
      refine xc_seq ?_
      refine xc_block ?_
      refine xc_seq ?_
      refine xc_region ?_
      refine xl_pure rfl rfl rfl (pv_move (v := .slice _ _ _) rfl rfl) ?_
      refine xl_pure rfl rfl rfl (pv_move (v := .int _ _) rfl rfl) ?_
      refine xl_pure rfl rfl rfl (pv_indexAddr_l rfl (sl_eq (hae (by omega)).1) rfl (by omega)) ?_
      refine xl_light rfl rfl rfl (lv_load (v := .int _ _) rfl rfl (by exact ld_nth ((hae (by omega)).2.ext hX) (by omega))) ?_
      refine xl_pure rfl rfl rfl (pv_move (v := .int _ _) rfl rfl) ?_
      refine xl_ndec rfl rfl rfl (pv_neq rfl rfl rfl) (fun h5_5 => ?_) (fun h5_5 => ?_)
      · skip
        refine xl_nil ?_
        refine xthen_normal ?_
        refine xc_cond_f rfl ?_
        refine xc_skip ?_
        refine xblock_normal ?_
        refine xthen_normal ?_
        refine xc_region ?_
        refine xl_pure rfl rfl rfl (pv_move (v := .int _ _) rfl rfl) ?_
        refine xl_pure rfl rfl rfl (pv_add rfl rfl rfl (fit_i64 (by omega))) ?_
        refine xl_pure rfl rfl rfl (pv_assign (v := .int _ _) rfl rfl) ?_
        refine xl_nil ?_
        refine xthen_normal ?_
        first
          | exact ⟨(k + 1, out, _), ⟨rfl, rfl, rfl, rfl, trivial⟩, ⟨by (try simp only); omega, dl_y hd (by omega) h5_5, by (try simp only); omega, ho, hX⟩, by (try simp only); omega⟩
          | exact ⟨(k + 1, out ++ [l.getD k 0], _), ⟨rfl, rfl, rfl, rfl, trivial⟩, ⟨by (try simp only); omega, dl_n hd (by omega) h5_5, by rw [List.length_append]; show _ + 1 ≤ _; omega, by simpa [ints] using hO6_6, hX⟩, by (try simp only); omega⟩
      · skip
        refine xl_nil ?_
        refine xthen_normal ?_
        refine xc_cond_t rfl ?_
        refine xc_region ?_
        refine xl_pure rfl rfl rfl (pv_move (v := .slice _ _ _) rfl rfl) ?_
        refine xl_pure rfl rfl rfl (pv_move (v := .slice _ _ _) rfl rfl) ?_
        refine xl_pure rfl rfl rfl (pv_move (v := .int _ _) rfl rfl) ?_
        refine xl_pure rfl rfl rfl (pv_indexAddr_l rfl (sl_eq (hae (by omega)).1) rfl (by omega)) ?_
        refine xl_light rfl rfl rfl (lv_load (v := .int _ _) rfl rfl (by exact ld_nth ((hae (by omega)).2.ext hX) (by omega))) ?_
        refine xl_heavy rfl rfl rfl (hv_buildSlice (cs := [.int _ _]) rfl rfl rfl rfl rfl) ?_
        rintro v6_5 H6_5 ⟨b6_5, rfl, hN6_5⟩
        have gb6_5 := hX.fresh hN6_5
        have pm6_5_ho := ho.apartN hN6_5
        have ho := ho.ext hN6_5.ext
        have hX := hX.trans hN6_5.ext
        have m6_5 := hN6_5.blk
        refine xl_heavy rfl rfl rfl (hv_append rfl rfl ho rfl (m6_5.row) rfl (by simp [Value.oneCell']) rfl (by decide) (by omega) (by omega) hX.size) ?_
        rintro v6_6 H6_6 ⟨hO6_6, hG6_6, -, hB6_6⟩
        have hX := ho.grown hX hG6_6 (Nat.le_refl _)
        obtain ⟨a6_6, c6_6, rfl⟩ := hO6_6.val
        refine xl_pure rfl rfl rfl (pv_assign (v := .slice _ _ _) rfl rfl) ?_
        refine xl_nil ?_
        refine xblock_normal ?_
        refine xthen_normal ?_
        refine xc_region ?_
        refine xl_pure rfl rfl rfl (pv_move (v := .int _ _) rfl rfl) ?_
        refine xl_pure rfl rfl rfl (pv_add rfl rfl rfl (fit_i64 (by omega))) ?_
        refine xl_pure rfl rfl rfl (pv_assign (v := .int _ _) rfl rfl) ?_
        refine xl_nil ?_
        refine xthen_normal ?_
        first
          | exact ⟨(k + 1, out, _), ⟨rfl, rfl, rfl, rfl, trivial⟩, ⟨by (try simp only); omega, dl_y hd (by omega) h5_5, by (try simp only); omega, ho, hX⟩, by (try simp only); omega⟩
          | exact ⟨(k + 1, out ++ [l.getD k 0], _), ⟨rfl, rfl, rfl, rfl, trivial⟩, ⟨by (try simp only); omega, dl_n hd (by omega) h5_5, by rw [List.length_append]; show _ + 1 ≤ _; omega, by simpa [ints] using hO6_6, hX⟩, by (try simp only); omega⟩
    · skip
      refine xl_nil ?_
      refine xthen_normal ?_
      refine xc_cond_f rfl ?_
      refine xc_exit ?_
      refine xthen_exit ?_
      refine xthen_exit ?_
      refine xblock_same ?_
      refine xthen_normal ?_
      refine xc_seq ?_
      refine xc_region ?_
      refine xl_pure rfl rfl rfl (pv_move (v := .slice _ _ _) rfl rfl) ?_
      refine xl_pure rfl rfl rfl (pv_assign (v := .slice _ _ _) rfl rfl) ?_
      refine xl_nil ?_
      refine xthen_normal ?_
      refine xc_ret ?_
      refine fin_ret (res1 (v := .slice _ _ _) rfl rfl) ?_
      have e : out = dlI l x := by rw [hd, show k = l.length by omega, List.take_length]
      have hO := own_le ho hB
      rw [e] at hO
      exact ⟨_, _, slv (by rw [e]), hO, hX⟩
end Go.XG
