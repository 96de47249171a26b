/-
  Walks of the seat's functions over the logic XG: each function, what it computes. Printed by a program out of wip/walks.py.
-/
import Derived.Test.YtpppiliakgoihaaI
import Derived.Test.YtpppiliakgoihaaG
import Derived.Test.YtpppiliakgoihaaP
import Derived.Test.YtpppiliakgoihaaWa
import Derived.Test.YtpppiliakgoihaaWb
import Derived.Test.YtpppiliakgoihaaWc
import Derived.Test.YtpppiliakgoihaaWd
import Derived.Test.YtpppiliakgoihaaQ
import Derived.Test.YtpppiliakgoihaaR
import Derived.Test.YtpppiliakgoihaaXg
import Derived.Test.YtpppiliakgoihaaWe
import Derived.Test.YtpppiliakgoihaaWf
import Derived.Test.YtpppiliakgoihaaWg
import Derived.Test.YtpppiliakgoihaaWh
import Derived.Test.YtpppiliakgoihaaWi
import Derived.Test.YtpppiliakgoihaaWj
namespace Go.XG
open Go.Proofs
set_option maxRecDepth 4000
set_option maxHeartbeats 4000000
theorem c34 {O : Outer} {H : Heap} {b : Nat} (l : List (List Int)) (c : Nat) (ex : List Value) (hw : Wide 3 l) (hc : l.length ≤ c) (hb : Blk H b (fr l ++ ex) 50) (hl : l.length < 4611686018427387904) (p : List Int → Bool) (g : Nat) [Has Try.prog g] (hf : ∀ (i : Nat) (H1 : Heap), i < l.length → FnC Try.prog g #[.agg (ints (gr l i)).toArray] O H1 (fun v H' => v = .bool (p (gr l i)) ∧ Ext H1 H')) :
    FnC Try.prog 34 #[.slice (some ⟨b, 0, none⟩) l.length c, .func (.func g) #[] #[]] O H (fun v H' => ∃ a' n' c', v = .slice a' n' c' ∧ n' = (l.filter fun r => !p r).length ∧ Rows H' a' 3 (l.filter fun r => !p r) ∧ But b H H') := by
  refine fn_enter (A := [.slice (some ⟨b, 0, none⟩) l.length c, .func (.func g) #[] #[]]) Try.func34 rfl rfl ?_
  refine xc_seq ?_
  refine xc_region ?_
  refine xl_pure rfl rfl rfl (pv_assign (v := .slice _ _ _) rfl rfl) ?_
  refine xl_nil ?_
  refine xthen_normal ?_
  refine xc_seq ?_
  refine xc_region ?_
  refine xl_pure rfl rfl rfl (pv_move (v := .slice _ _ _) rfl rfl) ?_
  refine xl_pure rfl rfl rfl (pv_move rfl rfl) ?_
  refine xl_heavy rfl rfl rfl (hv_call (g := 53) rfl rfl (c53 l _ c ⟨hw, .inr ⟨b, 0, rfl, rows_row hw hb.row.pre⟩⟩ hl p g hf) rfl) ?_
  rintro v1_2 H1_2 ⟨i1_2, rfl, hi1_2, hE1_2⟩
  have hB := hE1_2.but b
  have hb := hb.ext hE1_2
  refine xl_pure rfl rfl rfl (pv_assign (v := .int _ _) rfl rfl) ?_
  refine xl_nil ?_
  refine xthen_normal ?_
  refine xc_seq ?_
  refine xc_seq ?_
  refine xc_region ?_
  refine xl_pure rfl rfl rfl (pv_move (v := .int _ _) rfl rfl) ?_
  refine xl_dec rfl rfl rfl (pv_eql rfl rfl rfl) (fun h2_1 => ?_) (fun h2_1 => ?_)
  · skip
    refine xl_nil ?_
    refine xthen_normal ?_
    refine xc_cond_t rfl ?_
    refine xc_seq ?_
    have hnone : ∀ j, j < l.length → p (gr l j) = false := by
      rcases hi1_2 with ⟨_, h⟩ | ⟨n, hn, h, _⟩
      · exact h
      · omega
    refine xc_region ?_
    refine xl_pure rfl rfl rfl (pv_move (v := .slice _ _ _) rfl rfl) ?_
    refine xl_pure rfl rfl rfl (pv_assign (v := .slice _ _ _) rfl rfl) ?_
    refine xl_nil ?_
    refine xthen_normal ?_
    refine xc_ret ?_
    refine xthen_ret ?_
    refine fin_ret (res1 (v := .slice _ _ _) rfl rfl) ?_
    exact ⟨_, _, _, rfl, by rw [filter_all hnone], ⟨hw.filter _, by rw [filter_all hnone]; exact .inr ⟨b, 0, rfl, rows_row hw hb.row.pre⟩⟩, hB⟩
  · skip
    refine xl_nil ?_
    refine xthen_normal ?_
    refine xc_cond_f rfl ?_
    refine xc_skip ?_
    refine xthen_normal ?_
    refine xc_seq ?_
    refine xc_seq ?_
    obtain ⟨n, hn, rfl, hpn, hno⟩ := hi1_2.resolve_left (fun h => h2_1 h.1)
    obtain ⟨hd0, he0⟩ := del_start hw hn hpn hno
    rw [← he0] at hb
    refine xc_region ?_
    refine xl_pure rfl rfl rfl (pv_move (v := .int _ _) rfl rfl) ?_
    refine xl_pure rfl rfl rfl (pv_add rfl rfl rfl (fit_i64 (by omega))) ?_
    refine xl_pure rfl rfl rfl (pv_assign (v := .int _ _) rfl rfl) ?_
    refine xl_nil ?_
    refine xthen_normal ?_
    refine xc_block ?_
    refine xc_loop (τ := List (List Int) × List (List Int) × Nat) (fun t => [(0, .slice (some ⟨b, 0, none⟩) l.length c), (1, .func (.func g) #[] #[]), (5, .int .i64 (List.length t.1 : Nat)), (6, .int .i64 (t.2.2 : Nat))]) (fun t H' => Del l p 3 t.1 t.2.1 t.2.2 ∧ Blk H' b (fr (t.1 ++ (t.2.1 ++ l.drop t.2.2)) ++ ex) 50 ∧ But b H H') (fun t H' => l.length - t.2.2) (l.take n, [gr l n], n + 1) ?_ ?_ ?_
    · exact ⟨rfl, rfl, iv (by simp; omega), rfl, trivial⟩
    · skip
      exact ⟨hd0, hb, hB⟩
    · intro σ
      clear hb hB
      rintro ⟨kept, mid, j⟩ Hl ⟨hd, hb, hB⟩
      simp only at hd hb
      have hle := hd.le
      have hlen := hd.len
      show XC _ _ _ (upds σ [(0, .slice (some ⟨b, 0, none⟩) l.length c), (1, .func (.func g) #[] #[]), (5, .int .i64 (List.length kept : Nat)), (6, .int .i64 (j : Nat))]) _
      refine xc_seq ?_
      refine xc_seq ?_
      refine xc_region ?_
      refine xl_pure rfl rfl rfl (pv_move (v := .int _ _) rfl rfl) ?_
      refine xl_pure rfl rfl rfl (pv_move (v := .slice _ _ _) rfl rfl) ?_
      refine xl_pure rfl rfl rfl (pv_len_l rfl rfl) ?_
      refine xl_dec rfl rfl rfl (pv_lss rfl rfl rfl) (fun h5_3 => ?_) (fun h5_3 => ?_)
      · skip
        refine xl_nil ?_
        refine xthen_normal ?_
        refine xc_cond_t rfl ?_
        refine xc_skip ?_
        refine xthen_normal ?_
        refine xc_seq ?_
        refine xc_block ?_
        refine xc_seq ?_
        have hrow := del_row hd hw (by omega) hb
        refine xc_region ?_
        refine xl_pure rfl rfl rfl (pv_move (v := .slice _ _ _) rfl rfl) ?_
        refine xl_pure rfl rfl rfl (pv_move (v := .int _ _) rfl rfl) ?_
        refine xl_pure rfl rfl rfl (pv_indexAddr_l rfl rfl rfl (by omega)) ?_
        refine xl_light rfl rfl rfl (lv_load (v := .agg _) rfl rfl (by first | exact hrow)) ?_
        refine xl_heavy rfl rfl rfl (hv_alloc rfl rfl) ?_
        rintro v7_4 H7_4 ⟨b7_4, rfl, hN7_4⟩
        have hgo := hN7_4.ge
        have hne := hb.fresh hN7_4.ge
        have hb := hb.ext hN7_4.ext
        have ho := hN7_4.blk
        refine xl_store rfl rfl (hv_storeA (vs := ints (gr l j)) rfl rfl rfl (by exact ho) (ints_len hw (by omega)) (by rfl) (ints_one _)) ?_
        rintro v7_5 H7_5 ⟨hU7_5, hZ7_5⟩
        have hb := hb.but hU7_5.but hne
        have ho := hU7_5.blk
        have hB := hB.trans ((hN7_4.ext.ofBut hU7_5.but hN7_4.ge).but b)
        refine xl_nil ?_
        refine xthen_normal ?_
        refine xc_seq ?_
        refine xc_region ?_
        refine xl_pure rfl rfl rfl (pv_move rfl rfl) ?_
        refine xl_light rfl rfl rfl (lv_load (v := .agg _) rfl rfl (by first | exact ld_agg rfl ho.row (ints_len hw (by omega)))) ?_
        refine xl_heavy rfl rfl rfl (hv_call (g := g) rfl rfl (hf j _ (by omega)) rfl) ?_
        rintro v8_2 H8_2 ⟨rfl, hE8_2⟩
        have hB := hB.trans (hE8_2.but b)
        have hb := hb.ext hE8_2
        have ho := ho.ext hE8_2
        generalize hp8_2 : p (gr l j) = pk
        cases pk
        · skip
          refine xl_pure rfl rfl rfl (pv_not rfl rfl) ?_
          refine xl_nil ?_
          refine xthen_normal ?_
          refine xc_cond_t rfl ?_
          refine xc_seq ?_
          obtain ⟨x, rest, rfl⟩ := del_mid hd
          refine xc_region ?_
          refine xl_pure rfl rfl rfl (pv_move (v := .slice _ _ _) rfl rfl) ?_
          refine xl_pure rfl rfl rfl (pv_move (v := .int _ _) rfl rfl) ?_
          refine xl_light rfl rfl rfl (lv_load (v := .agg _) rfl rfl (by first | exact ld_agg rfl ho.row (ints_len hw (by omega)))) ?_
          refine xl_pure rfl rfl rfl (pv_indexAddr_l rfl rfl rfl (by omega)) ?_
          refine xl_store rfl rfl (hv_store (vs := ints (gr l j)) rfl rfl rfl (by exact hb) (ints_len hw (by omega)) (by rw [List.length_append, fr_len ((hd.wideK hw).app (hd.wide.app hw.drop))]; simp; omega) (ints_one _)) ?_
          rintro v9_4 H9_4 ⟨hU9_4, hZ9_4⟩
          have hb := hU9_4.blk
          rw [Int.toNat_natCast, del_put hd hw (by omega)] at hb
          have hB := hB.trans hU9_4.but
          refine xl_nil ?_
          refine xthen_normal ?_
          refine xc_region ?_
          refine xl_pure rfl rfl rfl (pv_move (v := .int _ _) rfl rfl) ?_
          refine xl_pure rfl rfl rfl (pv_add rfl rfl rfl (fit_i64 (by omega))) ?_
          refine xl_pure rfl rfl rfl (pv_assign (v := .int _ _) rfl rfl) ?_
          refine xl_nil ?_
          refine xblock_normal ?_
          refine xthen_normal ?_
          refine xc_region ?_
          refine xl_pure rfl rfl rfl (pv_move (v := .int _ _) rfl rfl) ?_
          refine xl_pure rfl rfl rfl (pv_add rfl rfl rfl (fit_i64 (by omega))) ?_
          refine xl_pure rfl rfl rfl (pv_assign (v := .int _ _) rfl rfl) ?_
          refine xl_nil ?_
          refine xthen_normal ?_
          first
            | exact ⟨(kept, mid ++ [gr l j], j + 1), ⟨rfl, rfl, rfl, rfl, trivial⟩, ⟨del_skip hd hw (by omega) hp8_2, (by rw [drop_gr (by omega)] at hb; simpa using hb), hB⟩, by simp only; omega⟩
            | exact ⟨(kept ++ [gr l j], rest ++ [gr l j], j + 1), ⟨rfl, rfl, iv (by simp), rfl, trivial⟩, ⟨del_take hd hw (by omega) hp8_2, hb, hB⟩, by simp only; omega⟩
        · skip
          refine xl_pure rfl rfl rfl (pv_not rfl rfl) ?_
          refine xl_nil ?_
          refine xthen_normal ?_
          refine xc_cond_f rfl ?_
          refine xc_skip ?_
          refine xblock_normal ?_
          refine xthen_normal ?_
          refine xc_region ?_
          refine xl_pure rfl rfl rfl (pv_move (v := .int _ _) rfl rfl) ?_
          refine xl_pure rfl rfl rfl (pv_add rfl rfl rfl (fit_i64 (by omega))) ?_
          refine xl_pure rfl rfl rfl (pv_assign (v := .int _ _) rfl rfl) ?_
          refine xl_nil ?_
          refine xthen_normal ?_
          first
            | exact ⟨(kept, mid ++ [gr l j], j + 1), ⟨rfl, rfl, rfl, rfl, trivial⟩, ⟨del_skip hd hw (by omega) hp8_2, (by rw [drop_gr (by omega)] at hb; simpa using hb), hB⟩, by simp only; omega⟩
            | exact ⟨(kept ++ [gr l j], rest ++ [gr l j], j + 1), ⟨rfl, rfl, iv (by simp), rfl, trivial⟩, ⟨del_take hd hw (by omega) hp8_2, hb, hB⟩, by simp only; omega⟩
      · skip
        refine xl_nil ?_
        refine xthen_normal ?_
        refine xc_cond_f rfl ?_
        refine xc_exit ?_
        refine xthen_exit ?_
        refine xthen_exit ?_
        refine xblock_same ?_
        refine xthen_normal ?_
        refine xc_seq ?_
        have hlast : l.length ≤ j := by omega
        have hpos := hd.pos
        have hWd : Wide 3 (kept ++ (mid ++ l.drop j)) := (hd.wideK hw).app (hd.wide.app hw.drop)
        refine xc_region ?_
        refine xl_pure rfl rfl rfl (pv_move (v := .slice _ _ _) rfl rfl) ?_
        refine xl_pure rfl rfl rfl (pv_move (v := .int _ _) rfl rfl) ?_
        refine xl_pure rfl rfl rfl (pv_slice_l rfl rfl (.none _) (.none _) (.some rfl (by omega)) (by omega) (by simp)) ?_
        refine xl_store rfl rfl (hv_clear (off := 0 + kept.length * 3) (n := l.length - kept.length) rfl (congrArg (fun a => Value.slice a (l.length - kept.length) (c - kept.length)) (cut_at (by omega))) (by omega) rfl (by exact hb) (by rw [zeroCells_len]; show 0 + kept.length * 3 + (l.length - kept.length) * 3 ≤ _; rw [List.length_append, fr_len hWd]; simp; omega) (zeroCells_one _ _ (by decide) (by decide))) ?_
        rintro v11_3 H11_3 hU11_3
        have hB := hB.trans hU11_3.but
        have hend := del_end hd hw hlast hU11_3.blk
        refine xl_nil ?_
        refine xthen_normal ?_
        refine xc_seq ?_
        refine xc_region ?_
        refine xl_pure rfl rfl rfl (pv_move (v := .slice _ _ _) rfl rfl) ?_
        refine xl_pure rfl rfl rfl (pv_move (v := .int _ _) rfl rfl) ?_
        refine xl_pure rfl rfl rfl (pv_slice_l rfl rfl (.none _) (.some rfl (by omega)) (.none _) (by omega) (by simp)) ?_
        refine xl_pure rfl rfl rfl (pv_assign (v := .slice _ _ _) rfl rfl) ?_
        refine xl_nil ?_
        refine xthen_normal ?_
        refine xc_ret ?_
        refine fin_ret (res1 (v := .slice _ _ _) rfl rfl) ?_
        exact ⟨_, _, _, rfl, hend.2, by rw [cut_0]; exact hend.1, hB⟩
end Go.XG
