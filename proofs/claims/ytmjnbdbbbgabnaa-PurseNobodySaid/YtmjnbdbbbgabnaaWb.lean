/-
  Walks of the seat's functions over the logic XG: each function, what it computes. Printed by a program out of wip/walks.py.
-/
import Derived.Test.YtmjnbdbbbgabnaaI
import Derived.Test.YtmjnbdbbbgabnaaTm
import Derived.Test.YtmjnbdbbbgabnaaTa
import Derived.Test.YtmjnbdbbbgabnaaTb
import Derived.Test.YtmjnbdbbbgabnaaTd
import Derived.Test.YtmjnbdbbbgabnaaTc
import Derived.Test.YtmjnbdbbbgabnaaP
import Derived.Test.YtmjnbdbbbgabnaaWa
namespace Go.XG
open Go.Proofs
set_option maxRecDepth 4000
set_option maxHeartbeats 4000000
theorem c17 {O : Outer} {H : Heap} {bp c : Nat} {a : Option Addr} {x : List (List Int)} (mp : Blk H bp [.slice a (tb x).length c, .int .i64 (tot x)] 56) (hR : RowsT H 85 5 a (tb x)) (hc : (tb x).length ≤ c) (hna : a = none → c = 0) (hl : (tb x).length < 1000000) (hg : Goo x) (fa fb n : Int) :
    FnC Try.prog 17 #[.pointer (some ⟨bp, 0, none⟩), .int .i64 fa, .int .i64 fb, .int .i64 n] O H (fun v H' => ∃ a' c', v = .int .i64 (moveE x fa fb n) ∧ But bp H H' ∧ Blk H' bp [.slice a' (tb (moveX x fa fb n)).length c', .int .i64 (tot (moveX x fa fb n))] 56 ∧ RowsT H' 85 5 a' (tb (moveX x fa fb n)) ∧ (tb (moveX x fa fb n)).length ≤ c' ∧ (a' = none → c' = 0)) := by
  refine fn_enter (A := [.pointer (some ⟨bp, 0, none⟩), .int .i64 fa, .int .i64 fb, .int .i64 n]) Try.func17 rfl rfl ?_
  have hX := But.refl bp H
  refine xc_seq ?_
  refine xc_region ?_
  refine xl_pure rfl rfl rfl (pv_assign (v := .int _ _) rfl rfl) ?_
  refine xl_nil ?_
  refine xthen_normal ?_
  refine xc_seq ?_
  refine xc_seq ?_
  refine xc_region ?_
  refine xl_pure rfl rfl rfl (pv_move (v := .int _ _) rfl rfl) ?_
  refine xl_pure rfl rfl rfl (pv_move (v := .int _ _) rfl rfl) ?_
  refine xl_heavy rfl rfl rfl (hv_buildSlice (cs := [.int _ _, .int _ _]) rfl rfl rfl rfl rfl) ?_
  rintro v1_2 H1_2 ⟨b1_2, rfl, hN1_2⟩
  have gb1_2 := hX.fresh hN1_2
  have nmp_1_2 := mp.apart hN1_2
  have mp := mp.ext hN1_2.ext
  have hR := hR.ext hN1_2.ext
  have hX := hX.transE hN1_2.ext
  have m1_2 := hN1_2.blk
  refine xl_pure rfl rfl rfl (pv_len_l rfl rfl) ?_
  refine xl_pure rfl rfl rfl (pv_move (v := .int _ _) rfl rfl) ?_
  refine xl_nil ?_
  refine xthen_normal ?_
  refine xc_block ?_
  refine xc_loop (τ := Nat) (fun t => [(0, .pointer (some ⟨bp, 0, none⟩)), (1, .int .i64 fa), (2, .int .i64 fb), (3, .int .i64 n), (16, .slice (some ⟨b1_2, 0, none⟩) 2 2), (17, .int .i64 (2 : Nat)), (18, .int .i64 (t : Nat))]) (fun t H' => (t ≤ 2) ∧ (∀ j, j < t → hasK (tb x) [[fa, fb].getD j 0, 0, 0, 0] = true) ∧ (Blk H' bp [.slice a (tb x).length c, .int .i64 (tot x)] 56) ∧ (RowsT H' 85 5 a (tb x)) ∧ (Blk H' b1_2 (ints [fa, fb]) 3) ∧ (But bp H H')) (fun t H' => 2 - t) 0 ?_ ?_ ?_
  · exact ⟨rfl, rfl, rfl, rfl, rfl, rfl, rfl, trivial⟩
  · skip
    exact ⟨Nat.zero_le _, fun j hj => absurd hj (by omega), mp, hR, m1_2, hX⟩
  · intro σ
    clear hX mp hR m1_2
    rintro i Hl2 ⟨hi, hall, mp, hR, m1_2, hX⟩
    replace hi : i ≤ 2 := hi
    replace hall : ∀ j, j < i → hasK (tb x) [[fa, fb].getD j 0, 0, 0, 0] = true := hall
    replace mp : Blk Hl2 bp [.slice a (tb x).length c, .int .i64 (tot x)] 56 := mp
    replace hR : RowsT Hl2 85 5 a (tb x) := hR
    replace m1_2 : Blk Hl2 b1_2 (ints [fa, fb]) 3 := m1_2
    replace hX : But bp H Hl2 := hX
    show XC _ _ _ (upds σ [(0, .pointer (some ⟨bp, 0, none⟩)), (1, .int .i64 fa), (2, .int .i64 fb), (3, .int .i64 n), (16, .slice (some ⟨b1_2, 0, none⟩) 2 2), (17, .int .i64 (2 : Nat)), (18, .int .i64 (i : Nat))]) _
    refine xc_seq ?_
    refine xc_region ?_
    refine xl_dec rfl rfl rfl (pv_lss rfl rfl rfl) (fun h2_0 => ?_) (fun h2_0 => ?_)
    · skip
      refine xl_nil ?_
      refine xthen_normal ?_
      refine xc_seq ?_
      refine xc_cond_t rfl ?_
      refine xc_skip ?_
      refine xthen_normal ?_
      refine xc_seq ?_
      refine xc_block ?_
      refine xc_seq ?_
      refine xc_region ?_
      refine xl_pure rfl rfl rfl (pv_indexAddr_l rfl rfl rfl (by omega)) ?_
      refine xl_light rfl rfl rfl (lv_load (v := .int _ _) rfl rfl (by exact ld_int m1_2 (by simp; omega))) ?_
      refine xl_pure rfl rfl rfl (pv_assign (v := .int _ _) rfl rfl) ?_
      refine xl_nil ?_
      refine xthen_normal ?_
      refine xc_seq ?_
      refine xc_region ?_
      refine xl_pure rfl rfl rfl (pv_move (v := .pointer _) rfl rfl) ?_
      refine xl_pure rfl rfl rfl (pv_move (v := .int _ _) rfl rfl) ?_
      refine xl_heavy rfl rfl rfl (hv_call (g := 22) rfl rfl (c22 mp hR hc hna hl hg ([fa, fb].getD i 0)) rfl) ?_
      rintro v4_2 H4_2 ⟨hv4_2, hE4_2⟩
      have mp := mp.ext hE4_2
      have hR := hR.ext hE4_2
      have m1_2 := m1_2.ext hE4_2
      have hX := hX.transE hE4_2
      rcases hv4_2 with ⟨hh, rfl⟩ | ⟨hh, rfl⟩
      · skip
        refine xl_pure rfl rfl rfl (pv_move (v := .tuple _) rfl rfl) ?_
        refine xl_pure rfl rfl rfl (pv_extract (v := .int _ _) rfl rfl rfl) ?_
        refine xl_pure rfl rfl rfl (pv_extract (v := .int _ _) rfl rfl rfl) ?_
        refine xl_pure rfl rfl rfl (pv_assign (v := .int _ _) rfl rfl) ?_
        refine xl_pure rfl rfl rfl (pv_assign (v := .int _ _) rfl rfl) ?_
        refine xl_nil ?_
        refine xthen_normal ?_
        refine xc_seq ?_
        refine xc_region ?_
        refine xl_pure rfl rfl rfl (pv_move (v := .int _ _) rfl rfl) ?_
        refine xl_ndec rfl rfl rfl (pv_neq rfl rfl rfl) (fun h5_1 => ?_) (fun h5_1 => ?_)
        · first
          | (exfalso; omega)
          |  (skip
              refine xl_nil ?_
              refine xthen_normal ?_
              refine xc_cond_f rfl ?_
              refine xc_skip ?_
              refine xblock_normal ?_
              refine xthen_normal ?_
              refine xc_region ?_
              refine xl_pure rfl rfl rfl (pv_add rfl rfl rfl (fit_i64 (by omega))) ?_
              refine xl_pure rfl rfl rfl (pv_move (v := .int _ _) rfl rfl) ?_
              refine xl_nil ?_
              refine xthen_normal ?_
              exact ⟨i + 1, ⟨rfl, rfl, rfl, rfl, rfl, rfl, rfl, trivial⟩, ⟨by (try simp only); omega, all_next hall hh, mp, hR, m1_2, hX⟩, by (try simp only); omega⟩)
        · first
          | (exfalso; omega)
          |  (skip
              refine xl_nil ?_
              refine xthen_normal ?_
              refine xc_cond_t rfl ?_
              refine xc_seq ?_
              refine xc_region ?_
              refine xl_pure rfl rfl rfl (pv_move (v := .int _ _) rfl rfl) ?_
              refine xl_pure rfl rfl rfl (pv_assign (v := .int _ _) rfl rfl) ?_
              refine xl_nil ?_
              refine xthen_normal ?_
              refine xc_ret ?_
              refine xblock_ret ?_
              refine xthen_ret ?_
              refine xthen_ret ?_
              refine xblock_ret ?_
              refine xthen_ret ?_
              refine fin_ret (res1 (v := .int _ _) rfl rfl) ?_
              obtain ⟨e1, e2⟩ := move_none (n := n) (two_no (by omega) hh)
              exact ⟨a, c, by rw [e1], hX, by rw [e2]; exact mp, by rw [e2]; exact hR, by rw [e2]; exact hc, hna⟩)
      · skip
        refine xl_pure rfl rfl rfl (pv_move (v := .tuple _) rfl rfl) ?_
        refine xl_pure rfl rfl rfl (pv_extract (v := .int _ _) rfl rfl rfl) ?_
        refine xl_pure rfl rfl rfl (pv_extract (v := .int _ _) rfl rfl rfl) ?_
        refine xl_pure rfl rfl rfl (pv_assign (v := .int _ _) rfl rfl) ?_
        refine xl_pure rfl rfl rfl (pv_assign (v := .int _ _) rfl rfl) ?_
        refine xl_nil ?_
        refine xthen_normal ?_
        refine xc_seq ?_
        refine xc_region ?_
        refine xl_pure rfl rfl rfl (pv_move (v := .int _ _) rfl rfl) ?_
        refine xl_ndec rfl rfl rfl (pv_neq rfl rfl rfl) (fun h5_1 => ?_) (fun h5_1 => ?_)
        · first
          | (exfalso; omega)
          |  (skip
              refine xl_nil ?_
              refine xthen_normal ?_
              refine xc_cond_f rfl ?_
              refine xc_skip ?_
              refine xblock_normal ?_
              refine xthen_normal ?_
              refine xc_region ?_
              refine xl_pure rfl rfl rfl (pv_add rfl rfl rfl (fit_i64 (by omega))) ?_
              refine xl_pure rfl rfl rfl (pv_move (v := .int _ _) rfl rfl) ?_
              refine xl_nil ?_
              refine xthen_normal ?_
              exact ⟨i + 1, ⟨rfl, rfl, rfl, rfl, rfl, rfl, rfl, trivial⟩, ⟨by (try simp only); omega, all_next hall hh, mp, hR, m1_2, hX⟩, by (try simp only); omega⟩)
        · first
          | (exfalso; omega)
          |  (skip
              refine xl_nil ?_
              refine xthen_normal ?_
              refine xc_cond_t rfl ?_
              refine xc_seq ?_
              refine xc_region ?_
              refine xl_pure rfl rfl rfl (pv_move (v := .int _ _) rfl rfl) ?_
              refine xl_pure rfl rfl rfl (pv_assign (v := .int _ _) rfl rfl) ?_
              refine xl_nil ?_
              refine xthen_normal ?_
              refine xc_ret ?_
              refine xblock_ret ?_
              refine xthen_ret ?_
              refine xthen_ret ?_
              refine xblock_ret ?_
              refine xthen_ret ?_
              refine fin_ret (res1 (v := .int _ _) rfl rfl) ?_
              obtain ⟨e1, e2⟩ := move_none (n := n) (two_no (by omega) hh)
              exact ⟨a, c, by rw [e1], hX, by rw [e2]; exact mp, by rw [e2]; exact hR, by rw [e2]; exact hc, hna⟩)
    · skip
      refine xl_nil ?_
      refine xthen_normal ?_
      refine xc_seq ?_
      refine xc_cond_f rfl ?_
      refine xc_exit ?_
      refine xthen_exit ?_
      refine xthen_exit ?_
      refine xblock_same ?_
      refine xthen_normal ?_
      refine xc_seq ?_
      refine xc_region ?_
      refine xl_pure rfl rfl rfl (pv_move (v := .pointer _) rfl rfl) ?_
      refine xl_pure rfl rfl rfl (pv_move (v := .int _ _) rfl rfl) ?_
      refine xl_pure rfl rfl rfl (pv_move (v := .int _ _) rfl rfl) ?_
      refine xl_heavy rfl rfl rfl (hv_call (g := 33) rfl rfl (c33 mp hR hc hna hl hg fa n) rfl) ?_
      rintro v8_3 H8_3 ⟨rfl, hE8_3⟩
      have mp := mp.ext hE8_3
      have hR := hR.ext hE8_3
      have m1_2 := m1_2.ext hE8_3
      have hX := hX.transE hE8_3
      refine xl_pure rfl rfl rfl (pv_assign (v := .int _ _) rfl rfl) ?_
      refine xl_nil ?_
      refine xthen_normal ?_
      refine xc_seq ?_
      refine xc_seq ?_
      refine xc_region ?_
      refine xl_pure rfl rfl rfl (pv_move (v := .int _ _) rfl rfl) ?_
      refine xl_dec rfl rfl rfl (pv_eql rfl rfl rfl) (fun h9_1 => ?_) (fun h9_1 => ?_)
      · skip
        refine xl_nil ?_
        refine xthen_normal ?_
        refine xc_cond_t rfl ?_
        refine xc_seq ?_
        obtain ⟨hh, hn0, hnm, e2⟩ := take_inv h9_1
        obtain ⟨hg1, ht1, hl1⟩ := goo_take hg h9_1
        have hmx := hg.max
        have hm1 := hg.mon hh
        have ht1' : tot (takeX x fa n) = tot x + -n := ht1
        have hb1 : hasK (tb x) [fb, 0, 0, 0] = true := hall 1 (by omega)
        have hb2 : hasK (tb (takeX x fa n)) [fb, 0, 0, 0] = true := by rw [e2, has_put hg.srt hh]; exact hb1
        have ht0 := hg1.tot0
        refine xc_region ?_
        refine xl_pure rfl rfl rfl (pv_move (v := .pointer _) rfl rfl) ?_
        refine xl_pure rfl rfl rfl (pv_move (v := .int _ _) rfl rfl) ?_
        refine xl_pure rfl rfl rfl (pv_move (v := .int _ _) rfl rfl) ?_
        refine xl_pure rfl rfl rfl (pv_neg rfl rfl (fit_i64 (by omega))) ?_
        refine xl_heavy rfl rfl rfl (hv_call (g := 34) rfl rfl (c34 mp hR hc hna hl hg fa (-n) hh (by omega) (by omega) (by omega) (by omega)) rfl) ?_
        rintro v10_4 H10_4 ⟨a10_4, c10_4, hB10_4, hT10_4, hR10_4, hc10_4, hna10_4⟩
        have hR := hR.offT mp hB10_4 (by first | rfl | assumption)
        have m1_2 := m1_2.off hB10_4 (by first | exact nmp_1_2.symm | exact ⟨m1_2.ne mp rfl⟩ | exact ⟨m1_2.ne mp (by assumption)⟩ | exact ⟨Ne.symm (mp.ne m1_2 (by assumption))⟩)
        have hX := hX.trans hB10_4
        have mp := hT10_4
        have e2 : takeX x fa n = putA x fa (mon x fa + -n) := e2
        have hla := len_has (n := mon x fa + -n) hg.srt hh
        rw [← e2] at mp hR10_4 hc10_4 hla
        rw [← ht1'] at mp
        have hlb : (tb (takeX x fa n)).length < 1000000 := by rw [tb_len] at hl ⊢; omega
        have hm2 := hg1.mon hb2
        refine xl_nil ?_
        refine xthen_normal ?_
        refine xc_region ?_
        refine xl_pure rfl rfl rfl (pv_move (v := .pointer _) rfl rfl) ?_
        refine xl_pure rfl rfl rfl (pv_move (v := .int _ _) rfl rfl) ?_
        refine xl_pure rfl rfl rfl (pv_move (v := .int _ _) rfl rfl) ?_
        refine xl_heavy rfl rfl rfl (hv_call (g := 34) rfl rfl (c34 mp hR10_4 hc10_4 hna10_4 hlb hg1 fb n hb2 (by omega) (by omega) (by omega) (by omega)) rfl) ?_
        rintro v11_3 H11_3 ⟨a11_3, c11_3, hB11_3, hT11_3, hR11_3, hc11_3, hna11_3⟩
        have hR := hR.offT mp hB11_3 (by first | rfl | assumption)
        have m1_2 := m1_2.off hB11_3 (by first | exact nmp_1_2.symm | exact ⟨m1_2.ne mp rfl⟩ | exact ⟨m1_2.ne mp (by assumption)⟩ | exact ⟨Ne.symm (mp.ne m1_2 (by assumption))⟩)
        have hR10_4 := hR10_4.offT mp hB11_3 (by first | rfl | assumption)
        have hX := hX.trans hB11_3
        have mp := hT11_3
        refine xl_nil ?_
        refine xthen_normal ?_
        refine xc_seq ?_
        refine xc_region ?_
        refine xl_pure rfl rfl rfl (pv_move (v := .int _ _) rfl rfl) ?_
        refine xl_pure rfl rfl rfl (pv_assign (v := .int _ _) rfl rfl) ?_
        refine xl_nil ?_
        refine xthen_normal ?_
        refine xc_ret ?_
        refine fin_ret (res1 (v := .int _ _) rfl rfl) ?_
        first
          | (obtain ⟨e1, e3⟩ := move_ok (n := n) hh hb1 h9_1; have et := (goo_move (a := fa) (b := fb) (n := n) hg).2.2; exact ⟨_, _, by rw [e1, h9_1], hX, by rw [et, e3, show tot x = tot (takeX x fa n) + n by omega]; exact mp, by rw [e3]; exact hR11_3, by rw [e3]; exact hc11_3, hna11_3⟩)
          | (obtain ⟨e1, e2⟩ := move_bad (a := fa) (b := fb) (n := n) (hall 0 (by omega)) (hall 1 (by omega)) h9_1; exact ⟨_, _, by rw [e1], hX, by rw [e2]; exact mp, by rw [e2]; exact hR, by rw [e2]; exact hc, hna⟩)
      · skip
        refine xl_nil ?_
        refine xthen_normal ?_
        refine xc_cond_f rfl ?_
        refine xc_skip ?_
        refine xthen_normal ?_
        refine xc_seq ?_
        refine xc_region ?_
        refine xl_pure rfl rfl rfl (pv_move (v := .int _ _) rfl rfl) ?_
        refine xl_pure rfl rfl rfl (pv_assign (v := .int _ _) rfl rfl) ?_
        refine xl_nil ?_
        refine xthen_normal ?_
        refine xc_ret ?_
        refine fin_ret (res1 (v := .int _ _) rfl rfl) ?_
        first
          | (obtain ⟨e1, e3⟩ := move_ok (n := n) hh hb1 h9_1; have et := (goo_move (a := fa) (b := fb) (n := n) hg).2.2; exact ⟨_, _, by rw [e1, h9_1], hX, by rw [et, e3, show tot x = tot (takeX x fa n) + n by omega]; exact mp, by rw [e3]; exact hR11_3, by rw [e3]; exact hc11_3, hna11_3⟩)
          | (obtain ⟨e1, e2⟩ := move_bad (a := fa) (b := fb) (n := n) (hall 0 (by omega)) (hall 1 (by omega)) h9_1; exact ⟨_, _, by rw [e1], hX, by rw [e2]; exact mp, by rw [e2]; exact hR, by rw [e2]; exact hc, hna⟩)

theorem c17n {O : Outer} {H : Heap} (fa fb n : Int) :
    FnC Try.prog 17 #[.pointer none, .int .i64 fa, .int .i64 fb, .int .i64 n] O H (fun v H' => v = .int .i64 1 ∧ Ext H H') := by
  refine fn_enter (A := [.pointer none, .int .i64 fa, .int .i64 fb, .int .i64 n]) Try.func17 rfl rfl ?_
  have hX := Ext.refl H
  refine xc_seq ?_
  refine xc_region ?_
  refine xl_pure rfl rfl rfl (pv_assign (v := .int _ _) rfl rfl) ?_
  refine xl_nil ?_
  refine xthen_normal ?_
  refine xc_seq ?_
  refine xc_seq ?_
  refine xc_region ?_
  refine xl_pure rfl rfl rfl (pv_move (v := .int _ _) rfl rfl) ?_
  refine xl_pure rfl rfl rfl (pv_move (v := .int _ _) rfl rfl) ?_
  refine xl_heavy rfl rfl rfl (hv_buildSlice (cs := [.int _ _, .int _ _]) rfl rfl rfl rfl rfl) ?_
  rintro v1_2 H1_2 ⟨b1_2, rfl, hN1_2⟩
  have gb1_2 := hX.fresh hN1_2
  have hX := hX.trans hN1_2.ext
  have m1_2 := hN1_2.blk
  refine xl_pure rfl rfl rfl (pv_len_l rfl rfl) ?_
  refine xl_pure rfl rfl rfl (pv_move (v := .int _ _) rfl rfl) ?_
  refine xl_nil ?_
  refine xthen_normal ?_
  refine xc_block ?_
  refine xc_loop (τ := Nat) (fun t => [(0, .pointer none), (1, .int .i64 fa), (2, .int .i64 fb), (3, .int .i64 n), (16, .slice (some ⟨b1_2, 0, none⟩) 2 2), (17, .int .i64 (2 : Nat)), (18, .int .i64 (t : Nat))]) (fun t H' => (t = 0) ∧ (Blk H' b1_2 (ints [fa, fb]) 3) ∧ (Ext H H')) (fun t H' => 2 - t) 0 ?_ ?_ ?_
  · exact ⟨rfl, rfl, rfl, rfl, rfl, rfl, rfl, trivial⟩
  · skip
    exact ⟨rfl, m1_2, hX⟩
  · intro σ
    clear hX m1_2
    rintro i Hl2 ⟨hi, m1_2, hX⟩
    replace hi : i = 0 := hi
    replace m1_2 : Blk Hl2 b1_2 (ints [fa, fb]) 3 := m1_2
    replace hX : Ext H Hl2 := hX
    show XC _ _ _ (upds σ [(0, .pointer none), (1, .int .i64 fa), (2, .int .i64 fb), (3, .int .i64 n), (16, .slice (some ⟨b1_2, 0, none⟩) 2 2), (17, .int .i64 (2 : Nat)), (18, .int .i64 (i : Nat))]) _
    refine xc_seq ?_
    refine xc_region ?_
    refine xl_dec rfl rfl rfl (pv_lss rfl rfl rfl) (fun h2_0 => ?_) (fun h2_0 => ?_)
    · skip
      refine xl_nil ?_
      refine xthen_normal ?_
      refine xc_seq ?_
      refine xc_cond_t rfl ?_
      refine xc_skip ?_
      refine xthen_normal ?_
      refine xc_seq ?_
      refine xc_block ?_
      refine xc_seq ?_
      refine xc_region ?_
      refine xl_pure rfl rfl rfl (pv_indexAddr_l rfl rfl rfl (by omega)) ?_
      refine xl_light rfl rfl rfl (lv_load (v := .int _ _) rfl rfl (by exact ld_int m1_2 (by simp; omega))) ?_
      refine xl_pure rfl rfl rfl (pv_assign (v := .int _ _) rfl rfl) ?_
      refine xl_nil ?_
      refine xthen_normal ?_
      refine xc_seq ?_
      refine xc_region ?_
      refine xl_pure rfl rfl rfl (pv_move (v := .pointer _) rfl rfl) ?_
      refine xl_pure rfl rfl rfl (pv_move (v := .int _ _) rfl rfl) ?_
      refine xl_heavy rfl rfl rfl (hv_call (g := 22) rfl rfl (c22n _) rfl) ?_
      rintro v4_2 H4_2 ⟨rfl, hE4_2⟩
      have m1_2 := m1_2.ext hE4_2
      have hX := hX.trans hE4_2
      refine xl_pure rfl rfl rfl (pv_move (v := .tuple _) rfl rfl) ?_
      refine xl_pure rfl rfl rfl (pv_extract (v := .int _ _) rfl rfl rfl) ?_
      refine xl_pure rfl rfl rfl (pv_extract (v := .int _ _) rfl rfl rfl) ?_
      refine xl_pure rfl rfl rfl (pv_assign (v := .int _ _) rfl rfl) ?_
      refine xl_pure rfl rfl rfl (pv_assign (v := .int _ _) rfl rfl) ?_
      refine xl_nil ?_
      refine xthen_normal ?_
      refine xc_seq ?_
      refine xc_region ?_
      refine xl_pure rfl rfl rfl (pv_move (v := .int _ _) rfl rfl) ?_
      refine xl_ndec rfl rfl rfl (pv_neq rfl rfl rfl) (fun h5_1 => ?_) (fun h5_1 => ?_)
      · exact absurd h5_1 (by decide)
      · skip
        refine xl_nil ?_
        refine xthen_normal ?_
        refine xc_cond_t rfl ?_
        refine xc_seq ?_
        refine xc_region ?_
        refine xl_pure rfl rfl rfl (pv_move (v := .int _ _) rfl rfl) ?_
        refine xl_pure rfl rfl rfl (pv_assign (v := .int _ _) rfl rfl) ?_
        refine xl_nil ?_
        refine xthen_normal ?_
        refine xc_ret ?_
        refine xblock_ret ?_
        refine xthen_ret ?_
        refine xthen_ret ?_
        refine xblock_ret ?_
        refine xthen_ret ?_
        refine fin_ret (res1 (v := .int _ _) rfl rfl) ?_
        exact ⟨rfl, hX⟩
    · skip
      refine xl_nil ?_
      refine xthen_normal ?_
      refine xc_seq ?_
      refine xc_cond_f rfl ?_
      refine xc_exit ?_
      refine xthen_exit ?_
      refine xthen_exit ?_
      refine xblock_same ?_
      refine xthen_normal ?_
      refine xc_seq ?_
      refine xc_region ?_
      refine xl_pure rfl rfl rfl (pv_move (v := .pointer _) rfl rfl) ?_
      refine xl_pure rfl rfl rfl (pv_move (v := .int _ _) rfl rfl) ?_
      refine xl_pure rfl rfl rfl (pv_move (v := .int _ _) rfl rfl) ?_
      refine xl_heavy rfl rfl rfl (hv_call (g := 33) rfl rfl (c33n fa n) rfl) ?_
      rintro v8_3 H8_3 ⟨rfl, hE8_3⟩
      have m1_2 := m1_2.ext hE8_3
      have hX := hX.trans hE8_3
      refine xl_pure rfl rfl rfl (pv_assign (v := .int _ _) rfl rfl) ?_
      refine xl_nil ?_
      refine xthen_normal ?_
      refine xc_seq ?_
      refine xc_seq ?_
      refine xc_region ?_
      refine xl_pure rfl rfl rfl (pv_move (v := .int _ _) rfl rfl) ?_
      refine xl_dec rfl rfl rfl (pv_eql rfl rfl rfl) (fun h9_1 => ?_) (fun h9_1 => ?_)
      · exact absurd h9_1 (by decide)
      · skip
        refine xl_nil ?_
        refine xthen_normal ?_
        refine xc_cond_f rfl ?_
        refine xc_skip ?_
        refine xthen_normal ?_
        refine xc_seq ?_
        refine xc_region ?_
        refine xl_pure rfl rfl rfl (pv_move (v := .int _ _) rfl rfl) ?_
        refine xl_pure rfl rfl rfl (pv_assign (v := .int _ _) rfl rfl) ?_
        refine xl_nil ?_
        refine xthen_normal ?_
        refine xc_ret ?_
        refine fin_ret (res1 (v := .int _ _) rfl rfl) ?_
        exact ⟨rfl, hX⟩

theorem c14 {O : Outer} {H : Heap} {bp : Nat} {x : List (List Int)} {va : Value} (mp : Blk H bp [va, .int .i64 (tot x)] 56) :
    FnC Try.prog 14 #[.pointer (some ⟨bp, 0, none⟩)] O H (fun v H' => v = .int .i64 (tot x) ∧ H = H') := by
  refine fn_enter (A := [.pointer (some ⟨bp, 0, none⟩)]) Try.func14 rfl rfl ?_
  have hX := Ext.refl H
  refine xc_seq ?_
  refine xc_region ?_
  refine xl_pure rfl rfl rfl (pv_assign (v := .int _ _) rfl rfl) ?_
  refine xl_nil ?_
  refine xthen_normal ?_
  refine xc_seq ?_
  refine xc_seq ?_
  refine xc_region ?_
  refine xl_pure rfl rfl rfl (pv_move (v := .pointer _) rfl rfl) ?_
  refine xl_pure rfl rfl rfl (pv_eql_pn rfl rfl rfl) ?_
  refine xl_nil ?_
  refine xthen_normal ?_
  refine xc_cond_f rfl ?_
  refine xc_skip ?_
  refine xthen_normal ?_
  refine xc_seq ?_
  refine xc_region ?_
  refine xl_pure rfl rfl rfl (pv_move (v := .pointer _) rfl rfl) ?_
  refine xl_pure rfl rfl rfl (pv_nilCheck_p rfl rfl) ?_
  refine xl_pure rfl rfl rfl (pv_fieldAddr rfl rfl) ?_
  refine xl_light rfl rfl rfl (lv_load (v := .int _ _) rfl rfl (ld_blk mp rfl)) ?_
  refine xl_pure rfl rfl rfl (pv_assign (v := .int _ _) rfl rfl) ?_
  refine xl_nil ?_
  refine xthen_normal ?_
  refine xc_ret ?_
  refine fin_ret (res1 (v := .int _ _) rfl rfl) ?_
  exact ⟨rfl, rfl⟩

theorem c14n {O : Outer} {H : Heap}  :
    FnC Try.prog 14 #[.pointer none] O H (fun v H' => v = .int .i64 0 ∧ H = H') := by
  refine fn_enter (A := [.pointer none]) Try.func14 rfl rfl ?_
  have hX := Ext.refl H
  refine xc_seq ?_
  refine xc_region ?_
  refine xl_pure rfl rfl rfl (pv_assign (v := .int _ _) rfl rfl) ?_
  refine xl_nil ?_
  refine xthen_normal ?_
  refine xc_seq ?_
  refine xc_seq ?_
  refine xc_region ?_
  refine xl_pure rfl rfl rfl (pv_move (v := .pointer _) rfl rfl) ?_
  refine xl_pure rfl rfl rfl (pv_eql_nn rfl rfl rfl) ?_
  refine xl_nil ?_
  refine xthen_normal ?_
  refine xc_cond_t rfl ?_
  refine xc_seq ?_
  refine xc_region ?_
  refine xl_pure rfl rfl rfl (pv_assign (v := .int _ _) rfl rfl) ?_
  refine xl_nil ?_
  refine xthen_normal ?_
  refine xc_ret ?_
  refine xthen_ret ?_
  refine fin_ret (res1 (v := .int _ _) rfl rfl) ?_
  exact ⟨rfl, rfl⟩
end Go.XG
