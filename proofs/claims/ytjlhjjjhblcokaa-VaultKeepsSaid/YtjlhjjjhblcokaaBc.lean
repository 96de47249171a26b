/-
  Walks of the seat's functions over the logic XG: each function, what it computes. Printed by a program out of wip/walks.py.
-/
import Derived.Test.YtjlhjjjhblcokaaI
import Derived.Test.YtjlhjjjhblcokaaXs
import Derived.Test.YtjlhjjjhblcokaaTo
import Derived.Test.YtjlhjjjhblcokaaTa
import Derived.Test.YtjlhjjjhblcokaaTb
import Derived.Test.YtjlhjjjhblcokaaKb
import Derived.Test.YtjlhjjjhblcokaaBa
import Derived.Test.YtjlhjjjhblcokaaBb
namespace Go.XG
open Go.Proofs
set_option maxRecDepth 20000
set_option maxHeartbeats 4000000
theorem c24 {O : Outer} {H : Heap} {bp c : Nat} {a : Option Addr} {l : List (List Int)} {T : List Int} (mp : Blk H bp (.slice a (l).length c :: ints (T)) 87) (hR : RowsT H 138 5 a l) (hc : l.length ≤ c) (hna : a = none → c = 0) (hl : l.length < 1000000) :
    FnC Try.prog 24 #[.pointer (some ⟨bp, 0, none⟩)] O H (fun v H' => ∃ a' c', v = .slice a' l.length c' ∧ RowsT H' 99 5 a' l ∧ Ext H H') := by
  refine fn_enter (A := [.pointer (some ⟨bp, 0, none⟩)]) Try.func24 rfl rfl ?_
  have hX := Ext.refl H
  refine xc_seq ?_
  refine xc_region ?_
  refine xl_pure rfl rfl rfl (pv_assign (v := .slice _ _ _) rfl rfl) ?_
  refine xl_nil ?_
  refine xthen_normal ?_
  refine xc_seq ?_
  refine xc_seq ?_
  refine xc_region ?_
  refine xl_pure rfl rfl rfl (pv_move (v := .pointer _) rfl rfl) ?_
  refine xl_pure rfl rfl rfl (pv_eql_pn rfl rfl rfl) ?_
  refine xl_nil ?_
  refine xthen_normal ?_
  refine xc_cond_f rfl ?_
  refine xc_skip ?_
  refine xthen_normal ?_
  refine xc_seq ?_
  refine xc_region ?_
  refine xl_heavy rfl rfl rfl (hv_alloc rfl rfl) ?_
  rintro v3_0 H3_0 ⟨b3_0, rfl, hN3_0⟩
  have gb3_0 := hX.fresh hN3_0
  have nmp_3_0 := mp.apart hN3_0
  have mp := mp.ext hN3_0.ext
  have hR := hR.ext hN3_0.ext
  have hX := hX.trans hN3_0.ext
  have m3_0 := hN3_0.blk
  refine xl_nil ?_
  refine xthen_normal ?_
  refine xc_seq_marks2 ?_
  refine xc_region ?_
  refine xl_pure rfl rfl rfl (pv_move (v := .pointer _) rfl rfl) ?_
  refine xl_pure rfl rfl rfl (pv_nilCheck_p rfl rfl) ?_
  refine xl_pure rfl rfl rfl (pv_fieldAddr rfl rfl) ?_
  refine xl_heavy rfl rfl rfl (hv_call (g := 64) rfl rfl (c64 (some ⟨bp, 0, none⟩)) rfl) ?_
  rintro v4_3 H4_3 ⟨bi, rfl, hN4_3⟩
  have m3_0 := m3_0.ext hN4_3.ext
  have mp := mp.ext hN4_3.ext
  have hR := hR.ext hN4_3.ext
  have hX := hX.trans hN4_3.ext
  have mi := hN4_3.blk
  refine xl_nil ?_
  refine xthen_normal ?_
  have hXs := hX.size
  refine xs_rangeB (f := fun i => [.agg (ints (ky (gr l i))).toArray, .int .i64 ((gr l i).getD 4 0)]) (n := l.length) rfl (tAll (bt := bp) (b1 := bi) (t := 87) (c := c) (rest := ints T) (a := a) (l := l) (by omega)) (fun _ => rfl) rfl (fun i H' => ∃ (va : Option Addr), ∃ (vc : Nat), (Blk H' b3_0 [.slice va i vc] 29) ∧ (Own H' H.size 99 5 (.slice va i vc) i (fr (l.take i))) ∧ (RowsT H' 138 5 a l) ∧ (Blk H' bp (.slice a (l).length c :: ints (T)) 87) ∧ (Blk H' bi [.pointer (some ⟨bp, 0, none⟩)] 136) ∧ (Ext H H')) (fun H' => False) ?_ ?_ ?_ ?_ ?_ ?_ ?_ ?_ ?_ ?_
  · rintro i H1 H2 ⟨va, vc, m3_0, ho, hR, mp, mi, hX⟩ e; exact ⟨va, vc, m3_0.ext e, ho.ext e, hR.ext e, mp.ext e, mi.ext e, hX.trans e⟩
  · rintro i l H1 H2 hle ⟨va, vc, m3_0, ho, hR, mp, mi, hX⟩ u; exact ⟨va, vc, m3_0.lp u, ho.lp u, hR.lp u, mp.lp u, mi.lp u, hX.lp u (Nat.le_trans hXs hle)⟩
  · intro _ _ h; exact h.elim
  · intro _ _ _ _ h; exact h.elim
  · rintro H' ⟨va, vc, m3_0, ho, hR, mp, mi, hX⟩; exact ⟨mi, mp⟩
  · rintro i H' ⟨va, vc, m3_0, ho, hR, mp, mi, hX⟩; exact hR
  · exact ⟨none, 0, m3_0, by simpa [fr] using Own.nil _ H.size 99 5, hR, mp, mi, hX⟩
  · skip
    clear hX mp hR m3_0 mi
    rintro i Hr5 oD oL hi5 ⟨va, vc, m3_0, ho, hR, mp, mi, hX⟩ hD hL
    replace m3_0 : Blk Hr5 b3_0 [.slice va i vc] 29 := m3_0
    replace ho : Own Hr5 H.size 99 5 (.slice va i vc) i (fr (l.take i)) := ho
    replace hR : RowsT Hr5 138 5 a l := hR
    replace mp : Blk Hr5 bp (.slice a (l).length c :: ints (T)) 87 := mp
    replace mi : Blk Hr5 bi [.pointer (some ⟨bp, 0, none⟩)] 136 := mi
    replace hX : Ext H Hr5 := hX
    have hr5 := hR.wide.get hi5
    have hkl := ky_len hr5 (by decide)
    have hD0 := hD; have hL0 := hL
    show XC _ _ _ (upd (upd _ 12 (.agg (ints (ky (gr l i))).toArray)) 13 (.int .i64 ((gr l i).getD 4 0))) _
    refine xc_seq ?_
    refine xc_region ?_
    refine xl_heavy rfl rfl rfl (hv_alloc rfl rfl) ?_
    rintro v5_0 H5_0 ⟨b5_0, rfl, hN5_0⟩
    have gb5_0 := hX.fresh hN5_0
    have nmp_5_0 := mp.apart hN5_0
    have nm3_0_5_0 := m3_0.apart hN5_0
    have nmi_5_0 := mi.apart hN5_0
    have mp := mp.ext hN5_0.ext
    have hR := hR.ext hN5_0.ext
    have m3_0 := m3_0.ext hN5_0.ext
    have mi := mi.ext hN5_0.ext
    have ho := ho.ext hN5_0.ext
    have hD := hD.ext hN5_0.ext
    have hL := hL.ext hN5_0.ext
    have hX := hX.trans hN5_0.ext
    have m5_0 := hN5_0.blk
    refine xl_store rfl rfl (hv_storeA (vs := ints (ky (gr l i))) rfl rfl rfl (m5_0) (ints_ten hkl) (by rfl) (ints_one _)) ?_
    rintro v5_1 H5_1 ⟨hU5_1, hZ5_1⟩
    have mp := mp.off hU5_1.but (by first | exact nmp_5_0 | exact ⟨mp.ne m5_0 rfl⟩ | exact ⟨mp.ne m5_0 (by assumption)⟩ | exact ⟨Ne.symm (m5_0.ne mp (by assumption))⟩)
    have hR := hR.offT m5_0 hU5_1.but (by first | rfl | assumption)
    have m3_0 := m3_0.off hU5_1.but (by first | exact nm3_0_5_0 | exact ⟨m3_0.ne m5_0 rfl⟩ | exact ⟨m3_0.ne m5_0 (by assumption)⟩ | exact ⟨Ne.symm (m5_0.ne m3_0 (by assumption))⟩)
    have mi := mi.off hU5_1.but (by first | exact nmi_5_0 | exact ⟨mi.ne m5_0 rfl⟩ | exact ⟨mi.ne m5_0 (by assumption)⟩ | exact ⟨Ne.symm (m5_0.ne mi (by assumption))⟩)
    have ho := ho.offU m5_0 hU5_1.but (.inl rfl)
    have hD := hD.off m5_0 hU5_1.but
    have hL := hL.off m5_0 hU5_1.but
    have hX := hX.upd hU5_1.but gb5_0
    have m5_0 := hU5_1.blk
    refine xl_nil ?_
    refine xthen_normal ?_
    refine xc_region ?_
    refine xl_pure rfl rfl rfl (pv_assign (v := .int _ _) rfl rfl) ?_
    refine xl_nil ?_
    refine xasg_mk (RecKept.of hD0 hL0 hD hL) (fun Hb5 oD oL uB hD hL => ?_)
    have mp := mp.lp uB
    have hR := hR.lp uB
    have m3_0 := m3_0.lp uB
    have mi := mi.lp uB
    have ho := ho.lp uB
    have m5_0 := m5_0.lp uB
    have hX := hX.lp uB (Nat.le_succ_of_le hXs)
    have hD0 := hD; have hL0 := hL
    refine xc_block ?_
    refine xc_region ?_
    refine xl_light rfl rfl rfl (lv_load (v := .slice _ _ _) rfl rfl (ld_blk m3_0 rfl)) ?_
    refine xl_pure rfl rfl rfl (pv_indexAddr_a rfl rfl rfl (by omega)) ?_
    refine xl_light rfl rfl rfl (lv_load (v := .int _ _) rfl rfl (by exact ld_get (i := 0) m5_0 (by omega))) ?_
    refine xl_pure rfl rfl rfl (pv_indexAddr_a rfl rfl rfl (by omega)) ?_
    refine xl_light rfl rfl rfl (lv_load (v := .int _ _) rfl rfl (by exact ld_get (i := 1) m5_0 (by omega))) ?_
    refine xl_pure rfl rfl rfl (pv_indexAddr_a rfl rfl rfl (by omega)) ?_
    refine xl_light rfl rfl rfl (lv_load (v := .int _ _) rfl rfl (by exact ld_get (i := 2) m5_0 (by omega))) ?_
    refine xl_pure rfl rfl rfl (pv_indexAddr_a rfl rfl rfl (by omega)) ?_
    refine xl_light rfl rfl rfl (lv_load (v := .int _ _) rfl rfl (by exact ld_get (i := 3) m5_0 (by omega))) ?_
    refine xl_pure rfl rfl rfl (pv_build_s (cs := [.int _ _, .int _ _, .int _ _, .int _ _]) rfl rfl rfl) ?_
    refine xl_pure rfl rfl rfl (pv_move (v := .int _ _) rfl rfl) ?_
    refine xl_pure rfl rfl rfl (pv_build_s (cs := [.int _ _, .int _ _, .int _ _, .int _ _, .int _ _]) rfl rfl rfl) ?_
    refine xl_heavy rfl rfl rfl (hv_buildSlice (cs := [.int _ _, .int _ _, .int _ _, .int _ _, .int _ _]) rfl rfl rfl rfl rfl) ?_
    rintro v7_12 H7_12 ⟨b7_12, rfl, hN7_12⟩
    have gb7_12 := hX.fresh hN7_12
    have nmp_7_12 := mp.apart hN7_12
    have nm3_0_7_12 := m3_0.apart hN7_12
    have nmi_7_12 := mi.apart hN7_12
    have pm7_12_ho := ho.apartN hN7_12
    have nm5_0_7_12 := m5_0.apart hN7_12
    have mp := mp.ext hN7_12.ext
    have hR := hR.ext hN7_12.ext
    have m3_0 := m3_0.ext hN7_12.ext
    have mi := mi.ext hN7_12.ext
    have ho := ho.ext hN7_12.ext
    have hD := hD.ext hN7_12.ext
    have hL := hL.ext hN7_12.ext
    have m5_0 := m5_0.ext hN7_12.ext
    have hX := hX.trans hN7_12.ext
    have m7_12 := hN7_12.blk
    refine xl_heavy rfl rfl rfl (hv_append (size := 5) rfl rfl ho rfl m7_12.row rfl (by simp [Value.oneCell']) rfl (by decide) (by omega) (by omega) hX.size) ?_
    rintro v7_13 H7_13 ⟨hO7_13, hG7_13, -, hB7_13⟩
    have mp := mp.offT ho hG7_13 rfl
    have hR := hR.growT ho hG7_13 (by first | rfl | assumption)
    have m3_0 := m3_0.offT ho hG7_13 rfl
    have mi := mi.offT ho hG7_13 rfl
    have hD := hD.grow ho hG7_13
    have hL := hL.grow ho hG7_13
    have m5_0 := m5_0.offT ho hG7_13 rfl
    have hX := ho.grown hX hG7_13 (Nat.le_refl _)
    obtain ⟨a7_13, c7_13, rfl⟩ := hO7_13.val
    refine xl_store rfl rfl (hv_store (vs := [.slice _ _ _]) rfl rfl rfl (m3_0) rfl (Nat.le_of_ble_eq_true rfl) rfl) ?_
    rintro v7_14 H7_14 ⟨hU7_14, hZ7_14⟩
    have mp := mp.off hU7_14.but (by first | exact nmp_3_0 | exact ⟨mp.ne m3_0 rfl⟩ | exact ⟨mp.ne m3_0 (by assumption)⟩ | exact ⟨Ne.symm (m3_0.ne mp (by assumption))⟩)
    have hR := hR.offT m3_0 hU7_14.but (by first | rfl | assumption)
    have mi := mi.off hU7_14.but (by first | exact nm3_0_mi.symm | exact ⟨mi.ne m3_0 rfl⟩ | exact ⟨mi.ne m3_0 (by assumption)⟩ | exact ⟨Ne.symm (m3_0.ne mi (by assumption))⟩)
    have hD := hD.off m3_0 hU7_14.but
    have hL := hL.off m3_0 hU7_14.but
    have m5_0 := m5_0.off hU7_14.but (by first | exact nm3_0_5_0.symm | exact ⟨m5_0.ne m3_0 rfl⟩ | exact ⟨m5_0.ne m3_0 (by assumption)⟩ | exact ⟨Ne.symm (m3_0.ne m5_0 (by assumption))⟩)
    have hO7_13 := hO7_13.offU m3_0 hU7_14.but (.inl rfl)
    have hX := hX.upd hU7_14.but gb3_0
    have m3_0 := hU7_14.blk
    refine xl_nil ?_
    refine xblock_normal ?_
    exact xround_n (RecKept.of hD0 hL0 hD hL) ⟨_, _, m3_0, by rw [frs_take hi5, ← row5 (hR.wide.get hi5)]; exact hO7_13, hR, mp, mi, hX⟩
  · skip
    clear hX mp hR m3_0 mi
    rintro Hd5 ⟨va, vc, m3_0, ho, hR, mp, mi, hX⟩ hM
    replace m3_0 : Blk Hd5 b3_0 [.slice va (l.length) vc] 29 := m3_0
    replace ho : Own Hd5 H.size 99 5 (.slice va (l.length) vc) (l.length) (fr (l.take (l.length))) := ho
    replace hR : RowsT Hd5 138 5 a l := hR
    replace mp : Blk Hd5 bp (.slice a (l).length c :: ints (T)) 87 := mp
    replace mi : Blk Hd5 bi [.pointer (some ⟨bp, 0, none⟩)] 136 := mi
    replace hX : Ext H Hd5 := hX
    rw [List.take_length] at ho
    refine xc_seq ?_
    refine xc_region ?_
    refine xl_light rfl rfl rfl (lv_load (v := .slice _ _ _) rfl rfl (ld_blk m3_0 rfl)) ?_
    refine xl_pure rfl rfl rfl (pv_assign (v := .slice _ _ _) rfl rfl) ?_
    refine xl_nil ?_
    refine xthen_normal ?_
    refine xc_retm rfl hM.h ?_
    have uM := lpw_set (o' := .deferred none) hM.h hM.r
    have mp := mp.lp uM
    have hR := hR.lp uM
    have m3_0 := m3_0.lp uM
    have mi := mi.lp uM
    have ho := ho.lp uM
    have hX := hX.lp uM hXs
    refine xret_ret ?_
    refine fin_ret (res1 (v := .slice _ _ _) rfl rfl) ?_
    exact ⟨_, _, rfl, own_rowsT (n := l.length) hR.wide ho, hX⟩
  · skip
    intro _ h; exact h.elim

/-- Stacks in memory that is newer than B. -/
structure StksN (H : Heap) (B : Nat) (a : Option Addr) (l : List Stack) : Prop where
  st : Stks H a l
  ge : ∀ g o, a = some ⟨g, o, none⟩ → 0 < l.length → B ≤ g
theorem own_stksN {H : Heap} {base t n c : Nat} {a : Option Addr} {l : List Stack} (h : Own H base t 2 (.slice a n c) l.length (fl l)) : StksN H base a l := ⟨own_stks h, fun g o e h0 => by
  rcases h.2 with ⟨_, h1⟩ | ⟨g', _, _, h1, h2, _⟩
  · omega
  · cases h1; cases e; exact h2⟩
section
variable {H H1 : Heap} {B B' p : Nat} {a : Option Addr} {l : List Stack}
theorem StksN.mono (h : StksN H B a l) (hB : B' ≤ B) : StksN H B' a l := ⟨h.st, fun g o e h0 => Nat.le_trans hB (h.ge g o e h0)⟩
theorem StksN.off (h : StksN H B a l) (hp : p < B) : StksO H p a l := ⟨h.st, fun g o e h0 => Nat.ne_of_gt (Nat.lt_of_lt_of_le hp (h.ge g o e h0))⟩
theorem StksN.ext (h : StksN H B a l) (e : Ext H H1) : StksN H1 B a l := ⟨h.st.ext e, h.ge⟩
theorem StksN.but (h : StksN H B a l) (u : But p H H1) (hp : p < B) : StksN H1 B a l := ⟨(h.off hp).but u, h.ge⟩
theorem StksN.nil {B : Nat} {a : Option Addr} : StksN H B a [] := ⟨Stks.nil, fun _ _ _ h => absurd h (by decide)⟩
end

theorem c51 {O : Outer} {H : Heap} {bp c : Nat} {a : Option Addr} {l : List (List Int)} {T : List Int} (mp : Blk H bp (.slice a (l).length c :: ints (T)) 87) (hR : RowsT H 138 5 a l) (hc : l.length ≤ c) (hna : a = none → c = 0) (hl : l.length < 1000000) (hs : Srt l) (k0 k1 k2 k3 : Int) :
    FnC Try.prog 51 #[.pointer (some ⟨bp, 0, none⟩), .agg #[.int .i64 k0, .int .i64 k1, .int .i64 k2, .int .i64 k3]] O H (fun v H' => ∃ a' c', v = .slice a' (ofS l k0 k1 k2).length c' ∧ StksN H' H.size a' (ofS l k0 k1 k2) ∧ Ext H H') := by
  have hwR : Wide 5 (rngR l [k0, k1, k2, 1] [k0, k1, k2, 33]) := hR.wide.take.drop
  have hlR : (rngR l [k0, k1, k2, 1] [k0, k1, k2, 33]).length ≤ l.length := by rw [← rng_len]; have := bel_le l [k0, k1, k2, 1]; have := bel_le l [k0, k1, k2, 33]; omega
  refine fn_enter (A := [.pointer (some ⟨bp, 0, none⟩), .agg #[.int .i64 k0, .int .i64 k1, .int .i64 k2, .int .i64 k3]]) Try.func51 rfl rfl ?_
  have hX := Ext.refl H
  refine xc_seq ?_
  refine xc_region ?_
  refine xl_heavy rfl rfl rfl (hv_box rfl rfl) ?_
  rintro v0_0 H0_0 ⟨b0_0, rfl, hN0_0⟩
  have gb0_0 := hX.fresh hN0_0
  have nmp_0_0 := mp.apart hN0_0
  have mp := mp.ext hN0_0.ext
  have hR := hR.ext hN0_0.ext
  have hX := hX.trans hN0_0.ext
  have m0_0 := hN0_0.blk
  refine xl_pure rfl rfl rfl (pv_assign (v := .slice _ _ _) rfl rfl) ?_
  refine xl_nil ?_
  refine xthen_normal ?_
  refine xc_seq ?_
  refine xc_seq ?_
  refine xc_region ?_
  refine xl_pure rfl rfl rfl (pv_move (v := .pointer _) rfl rfl) ?_
  refine xl_pure rfl rfl rfl (pv_eql_pn rfl rfl rfl) ?_
  refine xl_nil ?_
  refine xthen_normal ?_
  refine xc_cond_f rfl ?_
  refine xc_skip ?_
  refine xthen_normal ?_
  refine xc_seq ?_
  refine xc_region ?_
  refine xl_heavy rfl rfl rfl (hv_alloc rfl rfl) ?_
  rintro v3_0 H3_0 ⟨b3_0, rfl, hN3_0⟩
  have gb3_0 := hX.fresh hN3_0
  have nmp_3_0 := mp.apart hN3_0
  have nm0_0_3_0 := m0_0.apart hN3_0
  have mp := mp.ext hN3_0.ext
  have hR := hR.ext hN3_0.ext
  have m0_0 := m0_0.ext hN3_0.ext
  have hX := hX.trans hN3_0.ext
  have m3_0 := hN3_0.blk
  refine xl_nil ?_
  refine xthen_normal ?_
  refine xc_seq_marks2 ?_
  refine xp_start rfl (by repeat (first | with_reducible exact np_fin | with_reducible exact np_ret | with_reducible refine np_then ?_ | with_reducible refine np_block ?_)) (by kernel_rfl) ?_
  refine xp_pure (i := 0) rfl (by kernel_rfl) (by kernel_rfl) rfl rfl rfl (pv_move (v := .pointer _) rfl rfl) ?_
  refine xp_pure (i := 1) rfl (by kernel_rfl) (by kernel_rfl) rfl rfl rfl (pv_nilCheck_p rfl rfl) ?_
  refine xp_pure (i := 2) rfl (by kernel_rfl) (by kernel_rfl) rfl rfl rfl (pv_fieldAddr rfl rfl) ?_
  refine xp_light (i := 3) rfl (by kernel_rfl) (by kernel_rfl) rfl rfl rfl (lv_load (v := .agg _) rfl rfl (ld_blk_a m0_0 rfl rfl)) ?_
  refine xp_light (i := 6) rfl (by kernel_rfl) (by kernel_rfl) rfl rfl rfl (lv_load (v := .agg _) rfl rfl (ld_blk_a m0_0 rfl rfl)) ?_
  refine xp_heavy (i := 4) (by kernel_rfl) ?_
  refine xph_val rfl rfl rfl rfl (hv_call (g := 82) rfl rfl (c82 k0 k1 k2 k3 1) rfl) (pk (by kernel_rfl) (pd (by kernel_rfl) pn)) ?_
  rintro v4_4 H4_4 ⟨rfl, hE4_4⟩
  have mp := mp.ext hE4_4
  have hR := hR.ext hE4_4
  have m0_0 := m0_0.ext hE4_4
  have m3_0 := m3_0.ext hE4_4
  have hX := hX.trans hE4_4
  refine ⟨(okc (lv_load (v := .agg _) rfl rfl (ld_blk_a m0_0 rfl rfl)) okn), ?_⟩
  refine xp_heavy (i := 5) (by kernel_rfl) ?_
  refine xph_val rfl rfl rfl rfl (hv_call (g := 47) rfl rfl (c47 k0 k1 k2 1) rfl) (pk (by kernel_rfl) pn) ?_
  rintro v4_5 H4_5 ⟨rfl, hE4_5⟩
  have mp := mp.ext hE4_5
  have hR := hR.ext hE4_5
  have m0_0 := m0_0.ext hE4_5
  have m3_0 := m3_0.ext hE4_5
  have hX := hX.trans hE4_5
  refine ⟨(okc (lv_load (v := .agg _) rfl rfl (ld_blk_a m0_0 rfl rfl)) okn), ?_⟩
  refine xp_heavy (i := 7) (by kernel_rfl) ?_
  refine xph_val rfl rfl rfl rfl (hv_call (g := 82) rfl rfl (c82 k0 k1 k2 k3 33) rfl) (pd (by kernel_rfl) pn) ?_
  rintro v4_7 H4_7 ⟨rfl, hE4_7⟩
  have mp := mp.ext hE4_7
  have hR := hR.ext hE4_7
  have m0_0 := m0_0.ext hE4_7
  have m3_0 := m3_0.ext hE4_7
  have hX := hX.trans hE4_7
  refine ⟨okn, ?_⟩
  refine xp_heavy (i := 8) (by kernel_rfl) ?_
  refine xph_val rfl rfl rfl rfl (hv_call (g := 47) rfl rfl (c47 k0 k1 k2 33) rfl) pn ?_
  rintro v4_8 H4_8 ⟨rfl, hE4_8⟩
  have mp := mp.ext hE4_8
  have hR := hR.ext hE4_8
  have m0_0 := m0_0.ext hE4_8
  have m3_0 := m3_0.ext hE4_8
  have hX := hX.trans hE4_8
  refine ⟨okn, ?_⟩
  refine xp_heavy (i := 9) (by kernel_rfl) ?_
  refine xph_val rfl rfl rfl rfl (hv_call (g := 81) rfl rfl (c81 (some ⟨bp, 0, none⟩) [k0, k1, k2, 1] [k0, k1, k2, 33] rfl rfl) rfl) pn ?_
  rintro v4_9 H4_9 ⟨bi, bj, bk, rfl, mi, mj, mk, hE4_9⟩
  have mp := mp.ext hE4_9
  have hR := hR.ext hE4_9
  have m0_0 := m0_0.ext hE4_9
  have m3_0 := m3_0.ext hE4_9
  have hX := hX.trans hE4_9
  refine ⟨okn, ?_⟩
  refine xp_done (by kernel_rfl) ?_
  refine xthen_normal ?_
  have hXs := hX.size
  refine xs_rangeB (f := fun i => [.agg (ints (ky (gr (rngR l [k0, k1, k2, 1] [k0, k1, k2, 33]) i))).toArray, .int .i64 ((gr (rngR l [k0, k1, k2, 1] [k0, k1, k2, 33]) i).getD 4 0)]) (n := (rngR l [k0, k1, k2, 1] [k0, k1, k2, 33]).length) rfl (tRange (bt := bp) (b1 := bi) (b2 := bj) (b3 := bk) (t := 87) (c := c) (rest := ints T) (a := a) (l := l) (by omega) rfl hs hc hna [k0, k1, k2, 1] [k0, k1, k2, 33] rfl rfl) (fun _ => rfl) rfl (fun i H' => ∃ (va : Option Addr), ∃ (vc : Nat), (Blk H' b3_0 [.slice va i vc] 38) ∧ (Own H' H.size 90 2 (.slice va i vc) i (fl (((rngR l [k0, k1, k2, 1] [k0, k1, k2, 33]).take i).map stk))) ∧ (RowsT H' 138 5 a l) ∧ (Blk H' bp (.slice a (l).length c :: ints (T)) 87) ∧ (Blk H' bi [.pointer (some ⟨bp, 0, none⟩)] 136) ∧ (Blk H' bj (ints [k0, k1, k2, 1]) 103) ∧ (Blk H' bk (ints [k0, k1, k2, 33]) 103) ∧ (Ext H H')) (fun H' => False) ?_ ?_ ?_ ?_ ?_ ?_ ?_ ?_ ?_ ?_
  · rintro i H1 H2 ⟨va, vc, m3_0, ho, hR, mp, mi, mj, mk, hX⟩ e; exact ⟨va, vc, m3_0.ext e, ho.ext e, hR.ext e, mp.ext e, mi.ext e, mj.ext e, mk.ext e, hX.trans e⟩
  · rintro i l H1 H2 hle ⟨va, vc, m3_0, ho, hR, mp, mi, mj, mk, hX⟩ u; exact ⟨va, vc, m3_0.lp u, ho.lp u, hR.lp u, mp.lp u, mi.lp u, mj.lp u, mk.lp u, hX.lp u (Nat.le_trans hXs hle)⟩
  · intro _ _ h; exact h.elim
  · intro _ _ _ _ h; exact h.elim
  · rintro H' ⟨va, vc, m3_0, ho, hR, mp, mi, mj, mk, hX⟩; exact ⟨mi, mj, mk, mp⟩
  · rintro i H' ⟨va, vc, m3_0, ho, hR, mp, mi, mj, mk, hX⟩; exact hR
  · exact ⟨none, 0, m3_0, by simpa [fl] using Own.nil _ H.size 90 2, hR, mp, mi, mj, mk, hX⟩
  · skip
    clear hX mp hR m0_0 m3_0 mi mj mk
    rintro i Hr5 oD oL hi5 ⟨va, vc, m3_0, ho, hR, mp, mi, mj, mk, hX⟩ hD hL
    replace m3_0 : Blk Hr5 b3_0 [.slice va i vc] 38 := m3_0
    replace ho : Own Hr5 H.size 90 2 (.slice va i vc) i (fl (((rngR l [k0, k1, k2, 1] [k0, k1, k2, 33]).take i).map stk)) := ho
    replace hR : RowsT Hr5 138 5 a l := hR
    replace mp : Blk Hr5 bp (.slice a (l).length c :: ints (T)) 87 := mp
    replace mi : Blk Hr5 bi [.pointer (some ⟨bp, 0, none⟩)] 136 := mi
    replace mj : Blk Hr5 bj (ints [k0, k1, k2, 1]) 103 := mj
    replace mk : Blk Hr5 bk (ints [k0, k1, k2, 33]) 103 := mk
    replace hX : Ext H Hr5 := hX
    have hr5 := hwR.get hi5
    have hkl := ky_len hr5 (by decide)
    have hD0 := hD; have hL0 := hL
    show XC _ _ _ (upd (upd _ 20 (.agg (ints (ky (gr (rngR l [k0, k1, k2, 1] [k0, k1, k2, 33]) i))).toArray)) 21 (.int .i64 ((gr (rngR l [k0, k1, k2, 1] [k0, k1, k2, 33]) i).getD 4 0))) _
    refine xc_seq ?_
    refine xc_region ?_
    refine xl_heavy rfl rfl rfl (hv_alloc rfl rfl) ?_
    rintro v5_0 H5_0 ⟨b5_0, rfl, hN5_0⟩
    have gb5_0 := hX.fresh hN5_0
    have nmp_5_0 := mp.apart hN5_0
    have nm3_0_5_0 := m3_0.apart hN5_0
    have nmi_5_0 := mi.apart hN5_0
    have nmj_5_0 := mj.apart hN5_0
    have nmk_5_0 := mk.apart hN5_0
    have mp := mp.ext hN5_0.ext
    have hR := hR.ext hN5_0.ext
    have m3_0 := m3_0.ext hN5_0.ext
    have mi := mi.ext hN5_0.ext
    have mj := mj.ext hN5_0.ext
    have mk := mk.ext hN5_0.ext
    have ho := ho.ext hN5_0.ext
    have hD := hD.ext hN5_0.ext
    have hL := hL.ext hN5_0.ext
    have hX := hX.trans hN5_0.ext
    have m5_0 := hN5_0.blk
    refine xl_store rfl rfl (hv_storeA (vs := ints (ky (gr (rngR l [k0, k1, k2, 1] [k0, k1, k2, 33]) i))) rfl rfl rfl (m5_0) (ints_ten hkl) (by rfl) (ints_one _)) ?_
    rintro v5_1 H5_1 ⟨hU5_1, hZ5_1⟩
    have mp := mp.off hU5_1.but (by first | exact nmp_5_0 | exact ⟨mp.ne m5_0 rfl⟩ | exact ⟨mp.ne m5_0 (by assumption)⟩ | exact ⟨Ne.symm (m5_0.ne mp (by assumption))⟩)
    have hR := hR.offT m5_0 hU5_1.but (by first | rfl | assumption)
    have m3_0 := m3_0.off hU5_1.but (by first | exact nm3_0_5_0 | exact ⟨m3_0.ne m5_0 rfl⟩ | exact ⟨m3_0.ne m5_0 (by assumption)⟩ | exact ⟨Ne.symm (m5_0.ne m3_0 (by assumption))⟩)
    have mi := mi.off hU5_1.but (by first | exact nmi_5_0 | exact ⟨mi.ne m5_0 rfl⟩ | exact ⟨mi.ne m5_0 (by assumption)⟩ | exact ⟨Ne.symm (m5_0.ne mi (by assumption))⟩)
    have mj := mj.off hU5_1.but (by first | exact nmj_5_0 | exact ⟨mj.ne m5_0 rfl⟩ | exact ⟨mj.ne m5_0 (by assumption)⟩ | exact ⟨Ne.symm (m5_0.ne mj (by assumption))⟩)
    have mk := mk.off hU5_1.but (by first | exact nmk_5_0 | exact ⟨mk.ne m5_0 rfl⟩ | exact ⟨mk.ne m5_0 (by assumption)⟩ | exact ⟨Ne.symm (m5_0.ne mk (by assumption))⟩)
    have ho := ho.offU m5_0 hU5_1.but (.inl rfl)
    have hD := hD.off m5_0 hU5_1.but
    have hL := hL.off m5_0 hU5_1.but
    have hX := hX.upd hU5_1.but gb5_0
    have m5_0 := hU5_1.blk
    refine xl_nil ?_
    refine xthen_normal ?_
    refine xc_region ?_
    refine xl_pure rfl rfl rfl (pv_assign (v := .int _ _) rfl rfl) ?_
    refine xl_nil ?_
    refine xasg_mk (RecKept.of hD0 hL0 hD hL) (fun Hb5 oD oL uB hD hL => ?_)
    have mp := mp.lp uB
    have hR := hR.lp uB
    have m3_0 := m3_0.lp uB
    have mi := mi.lp uB
    have mj := mj.lp uB
    have mk := mk.lp uB
    have ho := ho.lp uB
    have m5_0 := m5_0.lp uB
    have hX := hX.lp uB (Nat.le_succ_of_le hXs)
    have hD0 := hD; have hL0 := hL
    refine xc_block ?_
    refine xc_region ?_
    refine xl_light rfl rfl rfl (lv_load (v := .slice _ _ _) rfl rfl (ld_blk m3_0 rfl)) ?_
    refine xl_pure rfl rfl rfl (pv_indexAddr_a rfl rfl rfl (by omega)) ?_
    refine xl_light rfl rfl rfl (lv_load (v := .int _ _) rfl rfl (by exact ld_get (i := 3) m5_0 (by omega))) ?_
    refine xl_pure rfl rfl rfl (pv_move (v := .int _ _) rfl rfl) ?_
    refine xl_pure rfl rfl rfl (pv_build_s (cs := [.int _ _, .int _ _]) rfl rfl rfl) ?_
    refine xl_heavy rfl rfl rfl (hv_buildSlice (cs := [.int _ _, .int _ _]) rfl rfl rfl rfl rfl) ?_
    rintro v7_5 H7_5 ⟨b7_5, rfl, hN7_5⟩
    have gb7_5 := hX.fresh hN7_5
    have nmp_7_5 := mp.apart hN7_5
    have nm3_0_7_5 := m3_0.apart hN7_5
    have nmi_7_5 := mi.apart hN7_5
    have nmj_7_5 := mj.apart hN7_5
    have nmk_7_5 := mk.apart hN7_5
    have pm7_5_ho := ho.apartN hN7_5
    have nm5_0_7_5 := m5_0.apart hN7_5
    have mp := mp.ext hN7_5.ext
    have hR := hR.ext hN7_5.ext
    have m3_0 := m3_0.ext hN7_5.ext
    have mi := mi.ext hN7_5.ext
    have mj := mj.ext hN7_5.ext
    have mk := mk.ext hN7_5.ext
    have ho := ho.ext hN7_5.ext
    have hD := hD.ext hN7_5.ext
    have hL := hL.ext hN7_5.ext
    have m5_0 := m5_0.ext hN7_5.ext
    have hX := hX.trans hN7_5.ext
    have m7_5 := hN7_5.blk
    refine xl_heavy rfl rfl rfl (hv_append (size := 2) rfl rfl ho rfl m7_5.row rfl (by simp [Value.oneCell']) rfl (by decide) (by omega) (by omega) hX.size) ?_
    rintro v7_6 H7_6 ⟨hO7_6, hG7_6, -, hB7_6⟩
    have mp := mp.offT ho hG7_6 rfl
    have hR := hR.growT ho hG7_6 (by first | rfl | assumption)
    have m3_0 := m3_0.offT ho hG7_6 rfl
    have mi := mi.offT ho hG7_6 rfl
    have mj := mj.offT ho hG7_6 rfl
    have mk := mk.offT ho hG7_6 rfl
    have hD := hD.grow ho hG7_6
    have hL := hL.grow ho hG7_6
    have m5_0 := m5_0.offT ho hG7_6 rfl
    have hX := ho.grown hX hG7_6 (Nat.le_refl _)
    obtain ⟨a7_6, c7_6, rfl⟩ := hO7_6.val
    refine xl_store rfl rfl (hv_store (vs := [.slice _ _ _]) rfl rfl rfl (m3_0) rfl (Nat.le_of_ble_eq_true rfl) rfl) ?_
    rintro v7_7 H7_7 ⟨hU7_7, hZ7_7⟩
    have mp := mp.off hU7_7.but (by first | exact nmp_3_0 | exact ⟨mp.ne m3_0 rfl⟩ | exact ⟨mp.ne m3_0 (by assumption)⟩ | exact ⟨Ne.symm (m3_0.ne mp (by assumption))⟩)
    have hR := hR.offT m3_0 hU7_7.but (by first | rfl | assumption)
    have mi := mi.off hU7_7.but (by first | exact nm3_0_mi.symm | exact ⟨mi.ne m3_0 rfl⟩ | exact ⟨mi.ne m3_0 (by assumption)⟩ | exact ⟨Ne.symm (m3_0.ne mi (by assumption))⟩)
    have mj := mj.off hU7_7.but (by first | exact nm3_0_mj.symm | exact ⟨mj.ne m3_0 rfl⟩ | exact ⟨mj.ne m3_0 (by assumption)⟩ | exact ⟨Ne.symm (m3_0.ne mj (by assumption))⟩)
    have mk := mk.off hU7_7.but (by first | exact nm3_0_mk.symm | exact ⟨mk.ne m3_0 rfl⟩ | exact ⟨mk.ne m3_0 (by assumption)⟩ | exact ⟨Ne.symm (m3_0.ne mk (by assumption))⟩)
    have hD := hD.off m3_0 hU7_7.but
    have hL := hL.off m3_0 hU7_7.but
    have m5_0 := m5_0.off hU7_7.but (by first | exact nm3_0_5_0.symm | exact ⟨m5_0.ne m3_0 rfl⟩ | exact ⟨m5_0.ne m3_0 (by assumption)⟩ | exact ⟨Ne.symm (m3_0.ne m5_0 (by assumption))⟩)
    have hO7_6 := hO7_6.offU m3_0 hU7_7.but (.inl rfl)
    have hX := hX.upd hU7_7.but gb3_0
    have m3_0 := hU7_7.blk
    refine xl_nil ?_
    refine xblock_normal ?_
    exact xround_n (RecKept.of hD0 hL0 hD hL) ⟨_, _, m3_0, by rw [fls_take hwR hi5]; exact hO7_6, hR, mp, mi, mj, mk, hX⟩
  · skip
    clear hX mp hR m0_0 m3_0 mi mj mk
    rintro Hd5 ⟨va, vc, m3_0, ho, hR, mp, mi, mj, mk, hX⟩ hM
    replace m3_0 : Blk Hd5 b3_0 [.slice va ((rngR l [k0, k1, k2, 1] [k0, k1, k2, 33]).length) vc] 38 := m3_0
    replace ho : Own Hd5 H.size 90 2 (.slice va ((rngR l [k0, k1, k2, 1] [k0, k1, k2, 33]).length) vc) ((rngR l [k0, k1, k2, 1] [k0, k1, k2, 33]).length) (fl (((rngR l [k0, k1, k2, 1] [k0, k1, k2, 33]).take ((rngR l [k0, k1, k2, 1] [k0, k1, k2, 33]).length)).map stk)) := ho
    replace hR : RowsT Hd5 138 5 a l := hR
    replace mp : Blk Hd5 bp (.slice a (l).length c :: ints (T)) 87 := mp
    replace mi : Blk Hd5 bi [.pointer (some ⟨bp, 0, none⟩)] 136 := mi
    replace mj : Blk Hd5 bj (ints [k0, k1, k2, 1]) 103 := mj
    replace mk : Blk Hd5 bk (ints [k0, k1, k2, 33]) 103 := mk
    replace hX : Ext H Hd5 := hX
    rw [List.take_length] at ho
    refine xc_seq ?_
    refine xc_region ?_
    refine xl_light rfl rfl rfl (lv_load (v := .slice _ _ _) rfl rfl (ld_blk m3_0 rfl)) ?_
    refine xl_pure rfl rfl rfl (pv_assign (v := .slice _ _ _) rfl rfl) ?_
    refine xl_nil ?_
    refine xthen_normal ?_
    refine xc_retm rfl hM.h ?_
    have uM := lpw_set (o' := .deferred none) hM.h hM.r
    have mp := mp.lp uM
    have hR := hR.lp uM
    have m3_0 := m3_0.lp uM
    have mi := mi.lp uM
    have mj := mj.lp uM
    have mk := mk.lp uM
    have ho := ho.lp uM
    have hX := hX.lp uM hXs
    refine xret_ret ?_
    refine fin_ret (res1 (v := .slice _ _ _) rfl rfl) ?_
    have eL : (rngR l [k0, k1, k2, 1] [k0, k1, k2, 33]).length = (ofS l k0 k1 k2).length := (List.length_map _).symm
    exact ⟨_, _, slv eL, own_stksN (n := (rngR l [k0, k1, k2, 1] [k0, k1, k2, 33]).length) (by rw [← eL]; exact ho), hX⟩
  · skip
    intro _ h; exact h.elim
end Go.XG
