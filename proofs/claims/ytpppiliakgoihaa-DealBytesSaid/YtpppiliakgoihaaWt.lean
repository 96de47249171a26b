/-
  Walks of the seat's functions over the logic XG: each function, what it computes. Printed by a program out of wip/walks.py.
-/
import Derived.Test.YtpppiliakgoihaaI
import Derived.Test.YtpppiliakgoihaaG
import Derived.Test.YtpppiliakgoihaaP
import Derived.Test.YtpppiliakgoihaaWa
import Derived.Test.YtpppiliakgoihaaWb
import Derived.Test.YtpppiliakgoihaaWc
import Derived.Test.YtpppiliakgoihaaWd
import Derived.Test.YtpppiliakgoihaaQ
import Derived.Test.YtpppiliakgoihaaR
import Derived.Test.YtpppiliakgoihaaXg
import Derived.Test.YtpppiliakgoihaaWe
import Derived.Test.YtpppiliakgoihaaWf
import Derived.Test.YtpppiliakgoihaaWg
import Derived.Test.YtpppiliakgoihaaWh
import Derived.Test.YtpppiliakgoihaaWi
import Derived.Test.YtpppiliakgoihaaWj
import Derived.Test.YtpppiliakgoihaaWk
import Derived.Test.YtpppiliakgoihaaV
import Derived.Test.YtpppiliakgoihaaXh
import Derived.Test.YtpppiliakgoihaaWl
import Derived.Test.YtpppiliakgoihaaWm
import Derived.Test.YtpppiliakgoihaaWn
import Derived.Test.YtpppiliakgoihaaU
import Derived.Test.YtpppiliakgoihaaWo
import Derived.Test.YtpppiliakgoihaaLn
import Derived.Test.YtpppiliakgoihaaNa
import Derived.Test.YtpppiliakgoihaaNb
import Derived.Test.YtpppiliakgoihaaNc
import Derived.Test.YtpppiliakgoihaaNd
import Derived.Test.YtpppiliakgoihaaNf
import Derived.Test.YtpppiliakgoihaaNg
import Derived.Test.YtpppiliakgoihaaXk
import Derived.Test.YtpppiliakgoihaaB5
import Derived.Test.YtpppiliakgoihaaWr
import Derived.Test.YtpppiliakgoihaaWs
namespace Go.XG
open Go.Proofs Go.Pen
set_option maxRecDepth 4000
set_option maxHeartbeats 4000000
theorem c47 {O : Outer} {H : Heap} {bp rd : Nat} {l : List UInt8} {bad : Bool} (mr : Blk H rd [.string (bs l), .bool bad, .bool true] 82) (mp : Blk H bp [.pointer (some ⟨rd, 0, none⟩)] 66) (nmp_mr : Apart bp rd) :
    FnC Try.prog 47 #[.pointer (some ⟨bp, 0, none⟩)] O H (fun v H' => ∃ n l' bad', uintS 9223372036854775807 (l, bad) = (n, (l', bad')) ∧ n < 9223372036854775808 ∧ v = .int .i64 (n : Nat) ∧ Upd H H' rd [.string (bs l'), .bool bad', .bool true] 82) := by
  refine fn_enter (A := [.pointer (some ⟨bp, 0, none⟩)]) Try.func47 rfl rfl ?_
  have hX := But.refl rd H
  refine xc_seq ?_
  refine xc_region ?_
  refine xl_pure rfl rfl rfl (pv_assign (v := .int _ _) rfl rfl) ?_
  refine xl_nil ?_
  refine xthen_normal ?_
  refine xc_seq ?_
  refine xc_region ?_
  refine xl_light rfl rfl rfl (lv_load (v := .pointer _) rfl rfl (ld_blk mp rfl)) ?_
  refine xl_heavy rfl rfl rfl (hv_call (g := 48) rfl rfl (p15 mr (9223372036854775807)) rfl) ?_
  rintro v1_1 H1_1 ⟨n1_1, l1_1, bad1_1, hw1_1, hn1_1, rfl, hU1_1⟩
  have mp := mp.off hU1_1.but (nmp_mr)
  have hX := hX.trans hU1_1.but
  have mr := hU1_1.blk
  refine xl_pure rfl rfl rfl (pv_assign (v := .int _ _) rfl rfl) ?_
  refine xl_nil ?_
  refine xthen_normal ?_
  refine xc_ret ?_
  refine fin_ret (res1 (v := .int _ _) rfl rfl) ?_
  exact ⟨_, _, _, hw1_1, hn1_1, rfl, hX, mr⟩

theorem c49 {O : Outer} {H : Heap} {bp rd : Nat} {l : List UInt8} {bad : Bool} (mr : Blk H rd [.string (bs l), .bool bad, .bool true] 82) (mp : Blk H bp [.pointer (some ⟨rd, 0, none⟩)] 66) {bq : Nat} (mq : Blk H bq [.func (.func 47) #[] #[.pointer (some ⟨bp, 0, none⟩)]] 69) (nmp_mr : Apart bp rd) (nmq_mr : Apart bq rd) :
    FnC Try.prog 49 #[.pointer (some ⟨bp, 0, none⟩), .pointer (some ⟨bq, 0, none⟩)] O H (fun v H' => ∃ xs a c l' bad', rdL (l, bad) = (xs, (l', bad')) ∧ v = .slice a (List.length xs) c ∧ Own H' H.size 63 2 (.slice a (List.length xs) c) xs.length (fl xs) ∧ xs.length ≤ 8 ∧ Upd H H' rd [.string (bs l'), .bool bad', .bool true] 82) := by
  refine fn_enter (A := [.pointer (some ⟨bp, 0, none⟩), .pointer (some ⟨bq, 0, none⟩)]) Try.func49 rfl rfl ?_
  have hX := But.refl rd H
  refine xc_seq ?_
  refine xc_region ?_
  refine xl_pure rfl rfl rfl (pv_assign (v := .slice _ _ _) rfl rfl) ?_
  refine xl_nil ?_
  refine xthen_normal ?_
  refine xc_seq ?_
  refine xc_seq ?_
  refine xc_region ?_
  refine xl_light rfl rfl rfl (lv_load (v := .pointer _) rfl rfl (ld_blk mp rfl)) ?_
  refine xl_heavy rfl rfl rfl (hv_call (g := 48) rfl rfl (p15 mr (8)) rfl) ?_
  rintro v1_1 H1_1 ⟨n1_1, l1_1, bad1_1, hw1_1, hn1_1, rfl, hU1_1⟩
  have mp := mp.off hU1_1.but (nmp_mr)
  have mq := mq.off hU1_1.but (nmq_mr)
  have hX := hX.trans hU1_1.but
  have mr := hU1_1.blk
  refine xl_pure rfl rfl rfl (pv_move (v := .int _ _) rfl rfl) ?_
  refine xl_nil ?_
  refine xthen_normal ?_
  refine xc_block ?_
  refine xc_loop (τ := List Stack × List UInt8 × Bool × Nat × Value) (fun t => [(1, .pointer (some ⟨bq, 0, none⟩)), (2, t.2.2.2.2), (4, .int .i64 (n1_1 : Nat)), (5, .int .i64 (t.2.2.2.1 : Nat))]) (fun t H' => (t.2.2.2.1 ≤ n1_1) ∧ (rdP t.2.2.2.1 (l1_1, bad1_1) = (t.1, (t.2.1, t.2.2.1))) ∧ (t.1.length = t.2.2.2.1) ∧ (Blk H' bp [.pointer (some ⟨rd, 0, none⟩)] 66) ∧ (Blk H' bq [.func (.func 47) #[] #[.pointer (some ⟨bp, 0, none⟩)]] 69) ∧ (Blk H' rd [.string (bs t.2.1), .bool t.2.2.1, .bool true] 82) ∧ (Own H' H.size 63 2 t.2.2.2.2 t.1.length (fl t.1)) ∧ (But rd H H')) (fun t H' => n1_1 - t.2.2.2.1) ([], l1_1, bad1_1, 0, .slice none 0 0) ?_ ?_ ?_
  · exact ⟨rfl, rfl, rfl, rfl, trivial⟩
  · skip
    exact ⟨Nat.zero_le _, rfl, rfl, mp, mq, mr, Own.nil .., hX⟩
  · intro σ
    clear hX mp mq mr
    rintro ⟨xs, l0, bad0, k, vo2⟩ Hl2 ⟨hk, hrd, hxl, mp, mq, mr, ho, hX⟩
    replace hk : k ≤ n1_1 := hk
    replace hrd : rdP k (l1_1, bad1_1) = (xs, (l0, bad0)) := hrd
    replace hxl : xs.length = k := hxl
    replace mp : Blk Hl2 bp [.pointer (some ⟨rd, 0, none⟩)] 66 := mp
    replace mq : Blk Hl2 bq [.func (.func 47) #[] #[.pointer (some ⟨bp, 0, none⟩)]] 69 := mq
    replace mr : Blk Hl2 rd [.string (bs l0), .bool bad0, .bool true] 82 := mr
    replace ho : Own Hl2 H.size 63 2 vo2 xs.length (fl xs) := ho
    replace hX : But rd H Hl2 := hX
    obtain ⟨va2, vc2, rfl⟩ := ho.val
    show XC _ _ _ (upds σ [(1, .pointer (some ⟨bq, 0, none⟩)), (2, .slice va2 xs.length vc2), (4, .int .i64 (n1_1 : Nat)), (5, .int .i64 (k : Nat))]) _
    refine xc_seq ?_
    have hn8 : (n1_1 : Int) ≤ 8 := uintS_le (by decide) hw1_1
    refine xc_region ?_
    refine xl_dec rfl rfl rfl (pv_lss rfl rfl rfl) (fun h2_0 => ?_) (fun h2_0 => ?_)
    · skip
      refine xl_nil ?_
      refine xthen_normal ?_
      refine xc_seq ?_
      refine xc_cond_t rfl ?_
      refine xc_skip ?_
      refine xthen_normal ?_
      refine xc_seq ?_
      refine xc_block ?_
      refine xp_start rfl (by repeat (first | with_reducible exact np_fin | with_reducible refine np_then ?_ | with_reducible refine np_block ?_)) (by kernel_rfl) ?_
      refine xp_pure (i := 0) rfl (by kernel_rfl) (by kernel_rfl) rfl rfl rfl (pv_move (v := .slice _ _ _) rfl rfl) ?_
      refine xp_light (i := 1) rfl (by kernel_rfl) (by kernel_rfl) rfl rfl rfl (lv_load rfl rfl (ld_blk mq rfl)) ?_
      refine xp_light (i := 3) rfl (by kernel_rfl) (by kernel_rfl) rfl rfl rfl (lv_load rfl rfl (ld_blk mq rfl)) ?_
      refine xp_heavy (i := 2) (by kernel_rfl) ?_
      refine xph_val rfl rfl rfl rfl (hv_call (g := 47) rfl rfl (c47 mr mp nmp_mr) rfl) (pk (by kernel_rfl) (pd (by kernel_rfl) pn)) ?_
      rintro v3_2 H3_2 ⟨n3_2, l3_2, bad3_2, hw3_2, hn3_2, rfl, hU3_2⟩
      have mp := mp.off hU3_2.but (nmp_mr)
      have mq := mq.off hU3_2.but (nmq_mr)
      have ho := ho.offU mr hU3_2.but (.inl rfl)
      have hX := hX.trans hU3_2.but
      have mr := hU3_2.blk
      refine ⟨(okc (lv_load rfl rfl (ld_blk mq rfl)) okn), ?_⟩
      refine xp_heavy (i := 4) (by kernel_rfl) ?_
      refine xph_val rfl rfl rfl rfl (hv_call (g := 47) rfl rfl (c47 mr mp nmp_mr) rfl) (pd (by kernel_rfl) pn) ?_
      rintro v3_4 H3_4 ⟨n3_4, l3_4, bad3_4, hw3_4, hn3_4, rfl, hU3_4⟩
      have mp := mp.off hU3_4.but (nmp_mr)
      have mq := mq.off hU3_4.but (nmq_mr)
      have ho := ho.offU mr hU3_4.but (.inl rfl)
      have hX := hX.trans hU3_4.but
      have mr := hU3_4.blk
      refine ⟨okn, ?_⟩
      refine xp_pure (i := 5) rfl (by kernel_rfl) (by kernel_rfl) rfl rfl rfl (pv_build_s (cs := [.int _ _, .int _ _]) rfl rfl rfl) ?_
      refine xp_heavy (i := 6) (by kernel_rfl) ?_
      refine xph_val rfl rfl rfl rfl (hv_buildSlice (cs := [.int _ _, .int _ _]) rfl rfl rfl rfl rfl) pn ?_
      rintro v3_6 H3_6 ⟨b3_6, rfl, hN3_6⟩
      have gb3_6 := hX.fresh hN3_6
      have nmp_3_6 := mp.apart hN3_6
      have nmq_3_6 := mq.apart hN3_6
      have nmr_3_6 := mr.apart hN3_6
      have pm3_6_ho := ho.apartN hN3_6
      have mp := mp.ext hN3_6.ext
      have mq := mq.ext hN3_6.ext
      have mr := mr.ext hN3_6.ext
      have ho := ho.ext hN3_6.ext
      have hX := hX.transE hN3_6.ext
      have m3_6 := hN3_6.blk
      refine ⟨okn, ?_⟩
      refine xp_heavy (i := 7) (by kernel_rfl) ?_
      refine xph_val rfl rfl rfl rfl (hv_append rfl rfl ho rfl (m3_6.row) rfl (by simp [Value.oneCell']) rfl (by decide) (by omega) (by omega) hX.size) pn ?_
      rintro v3_7 H3_7 ⟨hO3_7, hG3_7, -, hB3_7⟩
      have mp := mp.offT ho hG3_7 rfl
      have mq := mq.offT ho hG3_7 rfl
      have mr := mr.offT ho hG3_7 rfl
      have hX := ho.grownB hX hG3_7 (Nat.le_refl _)
      obtain ⟨a3_7, c3_7, rfl⟩ := hO3_7.val
      refine ⟨okn, ?_⟩
      refine xp_pure (i := 8) rfl (by kernel_rfl) (by kernel_rfl) rfl rfl rfl (pv_assign (v := .slice _ _ _) rfl rfl) ?_
      refine xp_done (by kernel_rfl) ?_
      refine xblock_normal ?_
      refine xthen_normal ?_
      refine xc_region ?_
      refine xl_pure rfl rfl rfl (pv_add rfl rfl rfl (fit_i64 (by omega))) ?_
      refine xl_pure rfl rfl rfl (pv_move (v := .int _ _) rfl rfl) ?_
      refine xl_nil ?_
      refine xthen_normal ?_
      exact ⟨(xs ++ [((n3_2 : Int), (n3_4 : Int))], _, _, k + 1, _), ⟨rfl, rfl, rfl, rfl, trivial⟩, ⟨by (try simp only); omega, rdP_succ hrd hw3_2 hw3_4, by simp [hxl], mp, mq, mr, by simpa [fl_snoc] using hO3_7, hX⟩, by (try simp only); omega⟩
    · skip
      refine xl_nil ?_
      refine xthen_normal ?_
      refine xc_seq ?_
      refine xc_cond_f rfl ?_
      refine xc_exit ?_
      refine xthen_exit ?_
      refine xthen_exit ?_
      refine xblock_same ?_
      refine xthen_normal ?_
      refine xc_seq ?_
      refine xc_region ?_
      refine xl_pure rfl rfl rfl (pv_move (v := .slice _ _ _) rfl rfl) ?_
      refine xl_pure rfl rfl rfl (pv_assign (v := .slice _ _ _) rfl rfl) ?_
      refine xl_nil ?_
      refine xthen_normal ?_
      refine xc_ret ?_
      refine fin_ret (res1 (v := .slice _ _ _) rfl rfl) ?_
      exact ⟨xs, _, _, l0, bad0, by unfold rdL; rw [hw1_1]; simp only; rw [show n1_1 = k by omega]; exact hrd, rfl, ho, by omega, hX, mr⟩
end Go.XG
