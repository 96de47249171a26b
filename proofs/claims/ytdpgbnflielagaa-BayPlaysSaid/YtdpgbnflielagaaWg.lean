/-
  Walks of the seat's functions over the logic XG: each function, what it computes. Printed by a program out of wip/walks.py.
-/
import Derived.Test.YtdpgbnflielagaaI
import Derived.Test.YtdpgbnflielagaaN
import Derived.Test.YtdpgbnflielagaaWa
import Derived.Test.YtdpgbnflielagaaWb
import Derived.Test.YtdpgbnflielagaaWc
import Derived.Test.YtdpgbnflielagaaWd
import Derived.Test.YtdpgbnflielagaaWe
import Derived.Test.YtdpgbnflielagaaWf
namespace Go.XG
open Go.Proofs
set_option maxRecDepth 4000
set_option maxHeartbeats 4000000
theorem leave {O : Outer} {H : Heap} {bp m c : Nat} {a : Option Addr} {T : List Se} {f : Fn} {G : Nat → Prop} (mp : Blk H bp [.slice a T.length c, .map (some m)] 52) (hO : Own H 0 69 3 (.slice a T.length c) T.length (fE T)) (hm : MapI H m f) (hL : LS H G T) (hGp : G bp) (hGm : G m) (hGa : ∀ j, bk a j → G j) (hT : GT T) (hfT : ∀ j r, f j = some r → ∃ k : Nat, r = k ∧ k < T.length) (j : Int) :
    FnC Try.prog 10 #[.pointer (some ⟨bp, 0, none⟩), .int .i64 j] O H (fun v H' => ((f j = none ∧ v = .tuple #[.int .i64 0, .int .i64 3] ∧ BB H' bp (Gn G H H') (T.map sdE) f) ∨ ∃ k : Nat, f j = some (k : Int) ∧ k < T.length ∧ v = .tuple #[.int .i64 (levM (sdE (gE T k)) j), .int .i64 0] ∧ BB H' bp (Gn G H H') ((T.map sdE).set k (levD (sdE (gE T k)) j)) (fun i => if i = j then none else f i)) ∧ KeepF G H H') := by
  have h16 := hT.len
  refine fn_enter (A := [.pointer (some ⟨bp, 0, none⟩), .int .i64 j]) Try.func10 rfl rfl ?_
  have hX := KeepF.refl (G) H
  refine xc_seq ?_
  refine xc_region ?_
  refine xl_heavy rfl rfl rfl (hv_box rfl rfl) ?_
  rintro v0_0 H0_0 ⟨b0_0, rfl, hN0_0⟩
  have gb0_0 := hX.fresh hN0_0
  have nmp_0_0 := mp.apart hN0_0
  have mp := mp.ext hN0_0.ext
  have hX := hX.transE hN0_0.ext
  have m0_0 := hN0_0.blk
  refine xl_pure rfl rfl rfl (pv_assign (v := .int _ _) rfl rfl) ?_
  refine xl_pure rfl rfl rfl (pv_assign (v := .int _ _) rfl rfl) ?_
  refine xl_nil ?_
  refine xthen_normal ?_
  refine xc_seq ?_
  refine xc_region ?_
  refine xl_pure rfl rfl rfl (pv_move (v := .pointer _) rfl rfl) ?_
  refine xl_light rfl rfl rfl (lv_load (v := .int _ _) rfl rfl (ld_blk m0_0 rfl)) ?_
  refine xl_heavy rfl rfl rfl (hv_call (g := 24) rfl rfl (find mp (hm.ext hN0_0.ext) h16 j) rfl) ?_
  rintro v1_2 H1_2 ⟨hv1_2, rfl⟩
  rcases hv1_2 with ⟨r, hof, rfl⟩ | ⟨hof, rfl⟩
  · skip
    refine xl_pure rfl rfl rfl (pv_move (v := .tuple _) rfl rfl) ?_
    refine xl_pure rfl rfl rfl (pv_extract (v := .int _ _) rfl rfl rfl) ?_
    refine xl_pure rfl rfl rfl (pv_extract (v := .int _ _) rfl rfl rfl) ?_
    refine xl_pure rfl rfl rfl (pv_assign (v := .int _ _) rfl rfl) ?_
    refine xl_pure rfl rfl rfl (pv_assign (v := .int _ _) rfl rfl) ?_
    refine xl_nil ?_
    refine xthen_normal ?_
    refine xc_seq ?_
    refine xc_seq ?_
    refine xc_region ?_
    refine xl_pure rfl rfl rfl (pv_move (v := .int _ _) rfl rfl) ?_
    refine xl_ndec rfl rfl rfl (pv_neq rfl rfl rfl) (fun h2_1 => ?_) (fun h2_1 => ?_)
    · skip
      refine xl_nil ?_
      refine xthen_normal ?_
      refine xc_cond_f rfl ?_
      refine xc_skip ?_
      refine xthen_normal ?_
      refine xc_seq ?_
      obtain ⟨k, rfl, hk⟩ := hfT _ _ hof
      obtain ⟨gb, ex, hae, mg0, -, hnc, hcm, hexl⟩ := (own_blk2 hO).resolve_left (by omega)
      have hgl : 0 + k * 3 + 3 ≤ (fE T ++ ex).length := by rw [List.length_append, fE_len]; omega
      obtain ⟨hA1, hA2, hA3⟩ := hT.at_ _ hk
      have hnjfalse : ¬ bk (adE (gE T k) false) b0_0 := (hL.io k hk false).new hN0_0
      have hnjtrue : ¬ bk (adE (gE T k) true) b0_0 := (hL.io k hk true).new hN0_0
      have hGTfalse : ∀ i, bk (adE (gE T k) false) i → G i := hL.own k hk false
      have hGTtrue : ∀ i, bk (adE (gE T k) true) i → G i := hL.own k hk true
      have mg := mg0.ext hN0_0.ext
      have hm := hm.ext hN0_0.ext
      have hL : LS H0_0 (Gn G H H0_0) T := (hL.ext hN0_0.ext).mono (fun i h => .inl h)
      refine xc_region ?_
      refine xl_pure rfl rfl rfl (pv_move (v := .pointer _) rfl rfl) ?_
      refine xl_pure rfl rfl rfl (pv_nilCheck_p rfl rfl) ?_
      refine xl_pure rfl rfl rfl (pv_fieldAddr rfl rfl) ?_
      refine xl_light rfl rfl rfl (lv_load (v := .slice _ _ _) rfl rfl (ld_blk mp rfl)) ?_
      refine xl_pure rfl rfl rfl (pv_move (v := .int _ _) rfl rfl) ?_
      refine xl_pure rfl rfl rfl (pv_indexAddr_l rfl (sl_eq hae) rfl (by omega)) ?_
      refine xl_pure rfl rfl rfl (pv_assign (v := .pointer _) rfl rfl) ?_
      refine xl_nil ?_
      refine xthen_normal ?_
      refine xc_seq ?_
      refine xp_start rfl (by repeat (first | with_reducible exact np_fin | with_reducible exact np_ret | with_reducible refine np_then ?_ | with_reducible refine np_block ?_)) (by kernel_rfl) ?_
      refine xp_pure (i := 0) rfl (by kernel_rfl) (by kernel_rfl) rfl rfl rfl (pv_move (v := .pointer _) rfl rfl) ?_
      refine xp_pure (i := 1) rfl (by kernel_rfl) (by kernel_rfl) rfl rfl rfl (pv_nilCheck_p rfl rfl) ?_
      refine xp_pure (i := 2) rfl (by kernel_rfl) (by kernel_rfl) rfl rfl rfl (pv_fieldAddr rfl rfl) ?_
      refine xp_light (i := 3) rfl (by kernel_rfl) (by kernel_rfl) rfl rfl rfl (lv_load (v := .map _) rfl rfl (ld_blk mp rfl)) ?_
      refine xp_light (i := 4) rfl (by kernel_rfl) (by kernel_rfl) rfl rfl rfl (lv_load (v := .int _ _) rfl rfl (ld_blk m0_0 rfl)) ?_
      refine xp_heavy (i := 5) (by kernel_rfl) ?_
      refine xph_store rfl rfl rfl (hv_delI rfl rfl rfl hm) (pd (by kernel_rfl) (pd (by kernel_rfl) pn)) ?_
      rintro v5_5 H5_5 ⟨hm5_5, hU5_5⟩
      have mp := mp.but hU5_5 (hm.blk mp).ne
      have mg := mg.but hU5_5 (hm.blk mg).ne
      have m0_0 := m0_0.but hU5_5 (hm.blk m0_0).ne
      have hL := hL.go (F := fun i => i = m) ⟨hU5_5.size, fun i hi hn => hU5_5.same i hi hn⟩ (fun i hi => by subst hi; exact hL.mapoff hm)
      have hX := hX.own hU5_5 hGm
      have hm := hm5_5
      refine ⟨okn, ?_⟩
      refine xp_done (by kernel_rfl) ?_
      refine xthen_normal ?_
      refine xc_seq ?_
      refine xc_region ?_
      refine xl_pure rfl rfl rfl (pv_makeFunc (a := []) (b := [.pointer _]) rfl rfl rfl) ?_
      refine xl_pure rfl rfl rfl (pv_assign rfl rfl) ?_
      refine xl_nil ?_
      refine xthen_normal ?_
      refine xc_seq ?_
      refine xp_start rfl (by repeat (first | with_reducible exact np_fin | with_reducible exact np_ret | with_reducible refine np_then ?_ | with_reducible refine np_block ?_)) (by kernel_rfl) ?_
      refine xp_pure (i := 0) rfl (by kernel_rfl) (by kernel_rfl) rfl rfl rfl (pv_move (v := .pointer _) rfl rfl) ?_
      refine xp_pure (i := 1) rfl (by kernel_rfl) (by kernel_rfl) rfl rfl rfl (pv_nilCheck_p rfl rfl) ?_
      refine xp_pure (i := 2) rfl (by kernel_rfl) (by kernel_rfl) rfl rfl rfl (pv_fieldAddr rfl rfl) ?_
      refine xp_light (i := 3) rfl (by kernel_rfl) (by kernel_rfl) rfl rfl rfl (lv_load (v := .slice _ _ _) rfl rfl (by exact ldE mg hk 1 rfl)) ?_
      refine xp_light (i := 4) rfl (by kernel_rfl) (by kernel_rfl) rfl rfl rfl (lv_load (v := .int _ _) rfl rfl (ld_blk m0_0 rfl)) ?_
      refine xp_heavy (i := 5) (by kernel_rfl) ?_
      refine xph_val rfl rfl rfl rfl (hv_call (g := 26) rfl rfl (has (l := (gE T k).rn) (hL.io k hk false).ints (by omega) j) rfl) (pd (by kernel_rfl) (pd (by kernel_rfl) pn)) ?_
      rintro v7_5 H7_5 ⟨hv7_5, rfl⟩
      refine ⟨okn, ?_⟩
      rcases hv7_5 with ⟨hi7_5, rfl⟩ | ⟨hi7_5, rfl⟩
      · skip
        refine xp_pure (i := 6) rfl (by kernel_rfl) (by kernel_rfl) rfl rfl rfl (pv_assign (v := .bool _) rfl rfl) ?_
        refine xp_done (by kernel_rfl) ?_
        refine xthen_normal ?_
        refine xc_seq ?_
        have hsz := hX.size
        have mgL := mg
        refine xc_region ?_
        refine xl_pure rfl rfl rfl (pv_move (v := .pointer _) rfl rfl) ?_
        refine xl_pure rfl rfl rfl (pv_move (v := .pointer _) rfl rfl) ?_
        refine xl_pure rfl rfl rfl (pv_nilCheck_p rfl rfl) ?_
        refine xl_pure rfl rfl rfl (pv_fieldAddr rfl rfl) ?_
        refine xl_light rfl rfl rfl (lv_load (v := .slice _ _ _) rfl rfl (by exact ldE mg hk 1 rfl)) ?_
        refine xl_pure rfl rfl rfl (pv_move rfl rfl) ?_
        refine xl_heavy rfl rfl rfl (hv_call (g := 27) rfl rfl (delK (l := (gE T k).rn) (hL.io k hk false) (by omega) m0_0 hnjfalse) rfl) ?_
        rintro v8_6 H8_6 ⟨rfl, hI8_6, hK8_6⟩
        have mp := mp.keep hK8_6 ((hL.io k hk false).noty mp rfl)
        have mg := mg.keep hK8_6 ((hL.io k hk false).noty mg rfl)
        have hm := hm.keep hK8_6 (hL.mapoff hm k false hk)
        have m0_0 := m0_0.keep hK8_6 hnjfalse
        have hX := hX.trans (hK8_6.mono (fun i h => hGTfalse i h))
        refine xl_pure rfl rfl rfl (pv_nilCheck_p rfl rfl) ?_
        refine xl_pure rfl rfl rfl (pv_fieldAddr rfl rfl) ?_
        refine xl_store rfl rfl (hv_store (vs := [.slice (gE T k).ra (dlI (gE T k).rn j).length (gE T k).rc]) rfl rfl rfl mg rfl (by show 0 + k * 3 + 1 + 1 ≤ _; omega) rfl) ?_
        rintro v8_9 H8_9 ⟨hU8_9, hZ8_9⟩
        have hI := hI8_6.but hU8_9.but (hI8_6.noty mg rfl)
        have hm := hm.off hU8_9.but (Apart.symm (hm.blk mg))
        have mp := mp.but hU8_9.but (mp.ne mg rfl)
        have m0_0 := m0_0.but hU8_9.but (m0_0.ne mg rfl)
        have hX := hX.own hU8_9.but (hGa _ ⟨_, hae, rfl⟩)
        have hkf : KeepF (fun i => i = gb ∨ bk (adE (gE T k) false) i) _ _ := (hK8_6.mono (fun i h => .inr h)).own hU8_9.but (.inl rfl)
        have hgo := hL.off mgL rfl
        have mg := hU8_9.blk
        skip
        rw [Int.toNat_natCast, stE_set (w := false) hk 1 rfl] at mg
        have hL : LS _ (Gn G H _) (T.set k (stE (gE T k) false (dlI (gE T k).rn j) (gE T k).ra (gE T k).rc)) := hL.step (w := false) (gb := gb) hk hkf hgo hI (fun i hi => .inl hi) hsz
        obtain ⟨T1, hT1⟩ : ∃ Tn, Tn = T.set k (stE (gE T k) false (dlI (gE T k).rn j) (gE T k).ra (gE T k).rc) := ⟨_, rfl⟩
        rw [← hT1] at mg hL
        have gT1 : gE T1 k = (stE (gE T k) false (dlI (gE T k).rn j) (gE T k).ra (gE T k).rc) := by rw [hT1, gE_set hk, if_pos rfl]
        have hk1 : k < T1.length := by rw [hT1, List.length_set]; exact hk
        have lT1 : (fE T1 ++ ex).length = c * 3 := by rw [← hexl, List.length_append, List.length_append, fE_len, fE_len, hT1, List.length_set]
        have hgl : 0 + k * 3 + 3 ≤ (fE T1 ++ ex).length := by rw [lT1]; omega
        have hsz := hX.size
        refine xl_nil ?_
        refine xthen_normal ?_
        refine xc_seq ?_
        have mgL := mg
        have hnjtrue : ¬ bk (adE (gE T1 k) true) b0_0 := by rw [gT1]; exact hnjtrue
        have hGTtrue : ∀ i, bk (adE (gE T1 k) true) i → G i := by rw [gT1]; exact hGTtrue
        have hw1 : (gE T1 k).wt = (gE T k).wt := by rw [gT1]; rfl
        have hl1 : (gE T1 k).wt.length ≤ 8 := by rw [hw1]; exact hA3
        refine xc_region ?_
        refine xl_pure rfl rfl rfl (pv_move (v := .pointer _) rfl rfl) ?_
        refine xl_pure rfl rfl rfl (pv_move (v := .pointer _) rfl rfl) ?_
        refine xl_pure rfl rfl rfl (pv_nilCheck_p rfl rfl) ?_
        refine xl_pure rfl rfl rfl (pv_fieldAddr rfl rfl) ?_
        refine xl_light rfl rfl rfl (lv_load (v := .slice _ _ _) rfl rfl (by exact ldE mg hk1 2 rfl)) ?_
        refine xl_pure rfl rfl rfl (pv_move rfl rfl) ?_
        refine xl_heavy rfl rfl rfl (hv_call (g := 27) rfl rfl (delK (l := (gE T1 k).wt) (hL.io k hk1 true) (by omega) m0_0 hnjtrue) rfl) ?_
        rintro v9_6 H9_6 ⟨rfl, hI9_6, hK9_6⟩
        have mp := mp.keep hK9_6 ((hL.io k hk1 true).noty mp rfl)
        have mg := mg.keep hK9_6 ((hL.io k hk1 true).noty mg rfl)
        have hm := hm.keep hK9_6 (hL.mapoff hm k true hk1)
        have m0_0 := m0_0.keep hK9_6 hnjtrue
        have hX := hX.trans (hK9_6.mono (fun i h => hGTtrue i h))
        refine xl_pure rfl rfl rfl (pv_nilCheck_p rfl rfl) ?_
        refine xl_pure rfl rfl rfl (pv_fieldAddr rfl rfl) ?_
        refine xl_store rfl rfl (hv_store (vs := [.slice (gE T1 k).wa (dlI (gE T1 k).wt j).length (gE T1 k).wc]) rfl rfl rfl mg rfl (by show 0 + k * 3 + 2 + 1 ≤ _; omega) rfl) ?_
        rintro v9_9 H9_9 ⟨hU9_9, hZ9_9⟩
        have hI := hI9_6.but hU9_9.but (hI9_6.noty mg rfl)
        have hm := hm.off hU9_9.but (Apart.symm (hm.blk mg))
        have mp := mp.but hU9_9.but (mp.ne mg rfl)
        have m0_0 := m0_0.but hU9_9.but (m0_0.ne mg rfl)
        have hX := hX.own hU9_9.but (hGa _ ⟨_, hae, rfl⟩)
        have hkf : KeepF (fun i => i = gb ∨ bk (adE (gE T1 k) true) i) _ _ := (hK9_6.mono (fun i h => .inr h)).own hU9_9.but (.inl rfl)
        have hgo := hL.off mgL rfl
        have mg := hU9_9.blk
        skip
        rw [Int.toNat_natCast, stE_set (w := true) hk1 2 rfl] at mg
        have hL : LS _ (Gn G H _) (T1.set k (stE (gE T1 k) true (dlI (gE T1 k).wt j) (gE T1 k).wa (gE T1 k).wc)) := hL.step (w := true) (gb := gb) hk1 hkf hgo hI (fun i hi => .inl hi) hsz
        obtain ⟨T2, hT2⟩ : ∃ Tn, Tn = T1.set k (stE (gE T1 k) true (dlI (gE T1 k).wt j) (gE T1 k).wa (gE T1 k).wc) := ⟨_, rfl⟩
        rw [← hT2] at mg hL
        have gT2 : gE T2 k = (stE (gE T1 k) true (dlI (gE T1 k).wt j) (gE T1 k).wa (gE T1 k).wc) := by rw [hT2, gE_set hk1, if_pos rfl]
        have hk2 : k < T2.length := by rw [hT2, List.length_set]; exact hk1
        have lT2 : (fE T2 ++ ex).length = c * 3 := by rw [← hexl, List.length_append, List.length_append, fE_len, fE_len, hT2, List.length_set, hT1, List.length_set]
        have hgl : 0 + k * 3 + 3 ≤ (fE T2 ++ ex).length := by rw [lT2]; omega
        have hsz := hX.size
        refine xl_nil ?_
        refine xthen_normal ?_
        refine xc_seq ?_
        refine xc_seq ?_
        have hw2 : (gE T2 k).wt = dlI (gE T k).wt j := by rw [gT2]; show dlI (gE T1 k).wt j = _; rw [hw1]
        have hr2 : (gE T2 k).rn = dlI (gE T k).rn j := by rw [gT2]; show (gE T1 k).rn = _; rw [gT1]; rfl
        have hs2 : (gE T2 k).sl = (gE T k).sl := by rw [gT2]; show (gE T1 k).sl = _; rw [gT1]; rfl
        have hl2 : (gE T2 k).wt.length ≤ 8 := by rw [hw2]; exact Nat.le_trans dl_len hA3
        have hTT : T2 = T.set k (stE (gE T1 k) true (dlI (gE T1 k).wt j) (gE T1 k).wa (gE T1 k).wc) := hT2.trans (set2 hT1)
        refine xc_region ?_
        refine xl_pure rfl rfl rfl (pv_move (v := .bool _) rfl rfl) ?_
        refine xl_pure rfl rfl rfl (pv_not rfl rfl) ?_
        refine xl_pure rfl rfl rfl (pv_move (v := .bool _) rfl rfl) ?_
        refine xl_pure rfl rfl rfl (pv_move (v := .pointer _) rfl rfl) ?_
        refine xl_pure rfl rfl rfl (pv_nilCheck_p rfl rfl) ?_
        refine xl_pure rfl rfl rfl (pv_fieldAddr rfl rfl) ?_
        refine xl_light rfl rfl rfl (lv_load (v := .slice _ _ _) rfl rfl (by exact ldE mg hk2 2 rfl)) ?_
        refine xl_pure rfl rfl rfl (pv_len_l rfl rfl) ?_
        refine xl_dec rfl rfl rfl (pv_eql rfl rfl rfl) (fun h10_8 => ?_) (fun h10_8 => ?_)
        · skip
          refine xl_pure rfl rfl rfl (pv_pick_f (v := .bool _) rfl rfl rfl) ?_
          refine xl_nil ?_
          refine xthen_normal ?_
          refine xc_cond_t rfl ?_
          refine xc_seq ?_
          refine xc_region ?_
          refine xl_pure rfl rfl rfl (pv_assign (v := .int _ _) rfl rfl) ?_
          refine xl_pure rfl rfl rfl (pv_assign (v := .int _ _) rfl rfl) ?_
          refine xl_nil ?_
          refine xthen_normal ?_
          refine xc_ret ?_
          refine xthen_ret ?_
          refine fin_ret (res2 (v := .int _ _) (x := .int _ _) rfl rfl rfl) ?_
          obtain ⟨e1, e2⟩ := lev_no (T := T) (k := k) (j := j) (by first | exact .inl hi7_5 | exact .inr (by rw [← hw2]; exact List.length_eq_zero_iff.1 (by omega)))
          exact ⟨.inr ⟨k, hof, hk, by rw [e1], by rw [e2]; exact bb_set (d := ⟨(gE T k).sl, dlI (gE T k).rn j, dlI (gE T k).wt j⟩) hk (sd_lev gT1 gT2) hae hnc hcm hexl (by rw [← hTT]; exact mg) mp hm (by rw [← hTT]; exact hL) hGp hGm hGa (Nat.le_refl _)⟩, hX⟩
        · skip
          refine xl_pure rfl rfl rfl (pv_pick_f (v := .bool _) rfl rfl rfl) ?_
          refine xl_nil ?_
          refine xthen_normal ?_
          refine xc_cond_f rfl ?_
          refine xc_skip ?_
          refine xthen_normal ?_
          refine xc_seq ?_
          have hwl : 0 < (gE T2 k).wt.length := by omega
          obtain ⟨gw, exw, haw, mw, hwc, hwm, hwx⟩ := (hL.io k hk2 true).blk.resolve_left (fun h => by have h2 : (gE T2 k).wt = [] := h.2.1; rw [h2] at hwl; exact absurd hwl (by decide))
          have hIw : IO _ (some ⟨gw, 0, none⟩) (gE T2 k).wc (gE T2 k).wt := haw ▸ hL.io k hk2 true
          refine xc_region ?_
          refine xl_pure rfl rfl rfl (pv_move (v := .pointer _) rfl rfl) ?_
          refine xl_pure rfl rfl rfl (pv_nilCheck_p rfl rfl) ?_
          refine xl_pure rfl rfl rfl (pv_fieldAddr rfl rfl) ?_
          refine xl_light rfl rfl rfl (lv_load (v := .slice _ _ _) rfl rfl (by exact ldE mg hk2 2 rfl)) ?_
          refine xl_pure rfl rfl rfl (pv_indexAddr_l rfl (sl_eq haw) rfl (by omega)) ?_
          refine xl_light rfl rfl rfl (lv_load (v := .int _ _) rfl rfl (by exact ld_nth mw.row.pre hwl)) ?_
          refine xl_pure rfl rfl rfl (pv_assign (v := .int _ _) rfl rfl) ?_
          refine xl_nil ?_
          refine xthen_normal ?_
          refine xc_seq ?_
          have hdl : ((gE T2 k).wt.drop 1).length = (gE T2 k).wt.length - 1 := List.length_drop ..
          have hcut := ints_cut (l := (gE T2 k).wt) (hL.io k hk2 true) hwl
          have hwc2 : (gE T2 k).wt.length ≤ (gE T2 k).wc := hwc
          refine xc_region ?_
          refine xl_pure rfl rfl rfl (pv_move (v := .pointer _) rfl rfl) ?_
          refine xl_pure rfl rfl rfl (pv_move (v := .pointer _) rfl rfl) ?_
          refine xl_pure rfl rfl rfl (pv_nilCheck_p rfl rfl) ?_
          refine xl_pure rfl rfl rfl (pv_fieldAddr rfl rfl) ?_
          refine xl_light rfl rfl rfl (lv_load (v := .slice _ _ _) rfl rfl (by exact ldE mg hk2 2 rfl)) ?_
          refine xl_pure rfl rfl rfl (pv_slice_l rfl rfl (.none _) (.none _) (.some rfl (by omega)) (by omega) (by simp)) ?_
          refine xl_heavy rfl rfl rfl (hv_call (g := 28) rfl rfl (cloneK hdl hcut (by rw [hdl]; omega)) rfl) ?_
          rintro v13_6 H13_6 ⟨a13_6, c13_6, rfl, hI13_6, hB13_6, hE13_6⟩
          have mgL := mg
          have mp := mp.ext hE13_6
          have mg := mg.ext hE13_6
          have hm := hm.ext hE13_6
          have m0_0 := m0_0.ext hE13_6
          have hX := hX.transE hE13_6
          have hkf0 := (KeepF.refl (fun i => i = gb ∨ bk (adE (gE T2 k) true) i) _).transE hE13_6
          refine xl_pure rfl rfl rfl (pv_nilCheck_p rfl rfl) ?_
          refine xl_pure rfl rfl rfl (pv_fieldAddr rfl rfl) ?_
          refine xl_store rfl rfl (hv_store (vs := [.slice a13_6 ((gE T2 k).wt.length - 1) c13_6]) rfl rfl rfl mg rfl (by show 0 + k * 3 + 2 + 1 ≤ _; omega) rfl) ?_
          rintro v13_9 H13_9 ⟨hU13_9, hZ13_9⟩
          have hI := hI13_6.but hU13_9.but (hI13_6.noty mg rfl)
          have hm := hm.off hU13_9.but (Apart.symm (hm.blk mg))
          have mp := mp.but hU13_9.but (mp.ne mg rfl)
          have m0_0 := m0_0.but hU13_9.but (m0_0.ne mg rfl)
          have hX := hX.own hU13_9.but (hGa _ ⟨_, hae, rfl⟩)
          have hkf : KeepF (fun i => i = gb ∨ bk (adE (gE T2 k) true) i) _ _ := (hkf0).own hU13_9.but (.inl rfl)
          have hgo := hL.off mgL rfl
          have mg := hU13_9.blk
          skip
          rw [Int.toNat_natCast, ← hdl, stE_set (w := true) hk2 2 rfl] at mg
          have hL : LS _ (Gn G H _) (T2.set k (stE (gE T2 k) true ((gE T2 k).wt.drop 1) a13_6 c13_6)) := hL.step (w := true) (gb := gb) hk2 hkf hgo hI (fun i hi => .inr (Nat.le_trans (Nat.le_refl _) (hB13_6 i hi))) hsz
          obtain ⟨T3, hT3⟩ : ∃ Tn, Tn = T2.set k (stE (gE T2 k) true ((gE T2 k).wt.drop 1) a13_6 c13_6) := ⟨_, rfl⟩
          rw [← hT3] at mg hL
          have gT3 : gE T3 k = (stE (gE T2 k) true ((gE T2 k).wt.drop 1) a13_6 c13_6) := by rw [hT3, gE_set hk2, if_pos rfl]
          have hk3 : k < T3.length := by rw [hT3, List.length_set]; exact hk2
          have lT3 : (fE T3 ++ ex).length = c * 3 := by rw [← hexl, List.length_append, List.length_append, fE_len, fE_len, hT3, List.length_set, hT2, List.length_set, hT1, List.length_set]
          have hgl : 0 + k * 3 + 3 ≤ (fE T3 ++ ex).length := by rw [lT3]; omega
          have hsz := hX.size
          refine xl_nil ?_
          refine xthen_normal ?_
          refine xc_seq ?_
          have hG3 : ∀ i, bk (gE T3 k).ra i → G i := by rw [gT3, gT2, gT1]; exact hGTfalse
          refine xc_region ?_
          refine xl_pure rfl rfl rfl (pv_move (v := .pointer _) rfl rfl) ?_
          refine xl_pure rfl rfl rfl (pv_move (v := .int _ _) rfl rfl) ?_
          refine xl_heavy rfl rfl rfl (hv_call (g := 23) rfl rfl (runs mg hL hk3 (by rw [gT3]; show Asc (gE T2 k).rn; rw [hr2]; exact asc_dl hA1) (by rw [gT3]; show (gE T2 k).rn.length ≤ 8; rw [hr2]; exact Nat.le_trans dl_len hA2) ((gE T2 k).wt.getD 0 0)) rfl) ?_
          rintro v14_2 H14_2 ⟨a14_2, c14_2, mg14_2, hL14_2, hK14_2⟩
          have mp := mp.keep hK14_2 (fun h => h.elim (fun e => (mp.ne mg rfl) e) ((hL.io k hk3 false).noty mp rfl))
          have hm := hm.keep hK14_2 (fun h => h.elim (fun e => (hm.blk mg).ne e.symm) (hL.mapoff hm k false hk3))
          have hX := hX.trans (hK14_2.mono (fun i h => h.elim (fun e => by rw [e]; exact hGa _ ⟨_, hae, rfl⟩) (fun h => hG3 i h)))
          have hL := hL14_2.mono (fun i h => Gn.chain h hsz hK14_2.size)
          have mg := mg14_2
          refine xl_nil ?_
          refine xthen_normal ?_
          refine xc_seq ?_
          refine xc_region ?_
          refine xl_pure rfl rfl rfl (pv_move (v := .int _ _) rfl rfl) ?_
          refine xl_pure rfl rfl rfl (pv_assign (v := .int _ _) rfl rfl) ?_
          refine xl_pure rfl rfl rfl (pv_assign (v := .int _ _) rfl rfl) ?_
          refine xl_nil ?_
          refine xthen_normal ?_
          refine xc_ret ?_
          refine fin_ret (res2 (v := .int _ _) (x := .int _ _) rfl rfl rfl) ?_
          obtain ⟨e1, e2⟩ := lev_yes (T := T) (k := k) (j := j) hi7_5 (by rw [← hw2]; intro h; rw [h] at hwl; exact absurd hwl (by decide))
          have hT3' := hT3.trans (set2 hTT)
          rw [set2 hT3'] at mg hL
          exact ⟨.inr ⟨k, hof, hk, by rw [e1, ← hw2]; rfl, by rw [e2]; exact bb_set (d := ⟨(gE T k).sl, insI (dlI (gE T k).rn j) ((dlI (gE T k).wt j).getD 0 0), (dlI (gE T k).wt j).drop 1⟩) hk (by rw [gT3]; show Sd.mk (gE T2 k).sl (insI (gE T2 k).rn _) ((gE T2 k).wt.drop 1) = _; rw [hs2, hr2, hw2]) hae hnc hcm hexl mg mp hm hL hGp hGm hGa (Nat.le_refl _)⟩, hX⟩
      · skip
        refine xp_pure (i := 6) rfl (by kernel_rfl) (by kernel_rfl) rfl rfl rfl (pv_assign (v := .bool _) rfl rfl) ?_
        refine xp_done (by kernel_rfl) ?_
        refine xthen_normal ?_
        refine xc_seq ?_
        have hsz := hX.size
        have mgL := mg
        refine xc_region ?_
        refine xl_pure rfl rfl rfl (pv_move (v := .pointer _) rfl rfl) ?_
        refine xl_pure rfl rfl rfl (pv_move (v := .pointer _) rfl rfl) ?_
        refine xl_pure rfl rfl rfl (pv_nilCheck_p rfl rfl) ?_
        refine xl_pure rfl rfl rfl (pv_fieldAddr rfl rfl) ?_
        refine xl_light rfl rfl rfl (lv_load (v := .slice _ _ _) rfl rfl (by exact ldE mg hk 1 rfl)) ?_
        refine xl_pure rfl rfl rfl (pv_move rfl rfl) ?_
        refine xl_heavy rfl rfl rfl (hv_call (g := 27) rfl rfl (delK (l := (gE T k).rn) (hL.io k hk false) (by omega) m0_0 hnjfalse) rfl) ?_
        rintro v8_6 H8_6 ⟨rfl, hI8_6, hK8_6⟩
        have mp := mp.keep hK8_6 ((hL.io k hk false).noty mp rfl)
        have mg := mg.keep hK8_6 ((hL.io k hk false).noty mg rfl)
        have hm := hm.keep hK8_6 (hL.mapoff hm k false hk)
        have m0_0 := m0_0.keep hK8_6 hnjfalse
        have hX := hX.trans (hK8_6.mono (fun i h => hGTfalse i h))
        refine xl_pure rfl rfl rfl (pv_nilCheck_p rfl rfl) ?_
        refine xl_pure rfl rfl rfl (pv_fieldAddr rfl rfl) ?_
        refine xl_store rfl rfl (hv_store (vs := [.slice (gE T k).ra (dlI (gE T k).rn j).length (gE T k).rc]) rfl rfl rfl mg rfl (by show 0 + k * 3 + 1 + 1 ≤ _; omega) rfl) ?_
        rintro v8_9 H8_9 ⟨hU8_9, hZ8_9⟩
        have hI := hI8_6.but hU8_9.but (hI8_6.noty mg rfl)
        have hm := hm.off hU8_9.but (Apart.symm (hm.blk mg))
        have mp := mp.but hU8_9.but (mp.ne mg rfl)
        have m0_0 := m0_0.but hU8_9.but (m0_0.ne mg rfl)
        have hX := hX.own hU8_9.but (hGa _ ⟨_, hae, rfl⟩)
        have hkf : KeepF (fun i => i = gb ∨ bk (adE (gE T k) false) i) _ _ := (hK8_6.mono (fun i h => .inr h)).own hU8_9.but (.inl rfl)
        have hgo := hL.off mgL rfl
        have mg := hU8_9.blk
        skip
        rw [Int.toNat_natCast, stE_set (w := false) hk 1 rfl] at mg
        have hL : LS _ (Gn G H _) (T.set k (stE (gE T k) false (dlI (gE T k).rn j) (gE T k).ra (gE T k).rc)) := hL.step (w := false) (gb := gb) hk hkf hgo hI (fun i hi => .inl hi) hsz
        obtain ⟨T1, hT1⟩ : ∃ Tn, Tn = T.set k (stE (gE T k) false (dlI (gE T k).rn j) (gE T k).ra (gE T k).rc) := ⟨_, rfl⟩
        rw [← hT1] at mg hL
        have gT1 : gE T1 k = (stE (gE T k) false (dlI (gE T k).rn j) (gE T k).ra (gE T k).rc) := by rw [hT1, gE_set hk, if_pos rfl]
        have hk1 : k < T1.length := by rw [hT1, List.length_set]; exact hk
        have lT1 : (fE T1 ++ ex).length = c * 3 := by rw [← hexl, List.length_append, List.length_append, fE_len, fE_len, hT1, List.length_set]
        have hgl : 0 + k * 3 + 3 ≤ (fE T1 ++ ex).length := by rw [lT1]; omega
        have hsz := hX.size
        refine xl_nil ?_
        refine xthen_normal ?_
        refine xc_seq ?_
        have mgL := mg
        have hnjtrue : ¬ bk (adE (gE T1 k) true) b0_0 := by rw [gT1]; exact hnjtrue
        have hGTtrue : ∀ i, bk (adE (gE T1 k) true) i → G i := by rw [gT1]; exact hGTtrue
        have hw1 : (gE T1 k).wt = (gE T k).wt := by rw [gT1]; rfl
        have hl1 : (gE T1 k).wt.length ≤ 8 := by rw [hw1]; exact hA3
        refine xc_region ?_
        refine xl_pure rfl rfl rfl (pv_move (v := .pointer _) rfl rfl) ?_
        refine xl_pure rfl rfl rfl (pv_move (v := .pointer _) rfl rfl) ?_
        refine xl_pure rfl rfl rfl (pv_nilCheck_p rfl rfl) ?_
        refine xl_pure rfl rfl rfl (pv_fieldAddr rfl rfl) ?_
        refine xl_light rfl rfl rfl (lv_load (v := .slice _ _ _) rfl rfl (by exact ldE mg hk1 2 rfl)) ?_
        refine xl_pure rfl rfl rfl (pv_move rfl rfl) ?_
        refine xl_heavy rfl rfl rfl (hv_call (g := 27) rfl rfl (delK (l := (gE T1 k).wt) (hL.io k hk1 true) (by omega) m0_0 hnjtrue) rfl) ?_
        rintro v9_6 H9_6 ⟨rfl, hI9_6, hK9_6⟩
        have mp := mp.keep hK9_6 ((hL.io k hk1 true).noty mp rfl)
        have mg := mg.keep hK9_6 ((hL.io k hk1 true).noty mg rfl)
        have hm := hm.keep hK9_6 (hL.mapoff hm k true hk1)
        have m0_0 := m0_0.keep hK9_6 hnjtrue
        have hX := hX.trans (hK9_6.mono (fun i h => hGTtrue i h))
        refine xl_pure rfl rfl rfl (pv_nilCheck_p rfl rfl) ?_
        refine xl_pure rfl rfl rfl (pv_fieldAddr rfl rfl) ?_
        refine xl_store rfl rfl (hv_store (vs := [.slice (gE T1 k).wa (dlI (gE T1 k).wt j).length (gE T1 k).wc]) rfl rfl rfl mg rfl (by show 0 + k * 3 + 2 + 1 ≤ _; omega) rfl) ?_
        rintro v9_9 H9_9 ⟨hU9_9, hZ9_9⟩
        have hI := hI9_6.but hU9_9.but (hI9_6.noty mg rfl)
        have hm := hm.off hU9_9.but (Apart.symm (hm.blk mg))
        have mp := mp.but hU9_9.but (mp.ne mg rfl)
        have m0_0 := m0_0.but hU9_9.but (m0_0.ne mg rfl)
        have hX := hX.own hU9_9.but (hGa _ ⟨_, hae, rfl⟩)
        have hkf : KeepF (fun i => i = gb ∨ bk (adE (gE T1 k) true) i) _ _ := (hK9_6.mono (fun i h => .inr h)).own hU9_9.but (.inl rfl)
        have hgo := hL.off mgL rfl
        have mg := hU9_9.blk
        skip
        rw [Int.toNat_natCast, stE_set (w := true) hk1 2 rfl] at mg
        have hL : LS _ (Gn G H _) (T1.set k (stE (gE T1 k) true (dlI (gE T1 k).wt j) (gE T1 k).wa (gE T1 k).wc)) := hL.step (w := true) (gb := gb) hk1 hkf hgo hI (fun i hi => .inl hi) hsz
        obtain ⟨T2, hT2⟩ : ∃ Tn, Tn = T1.set k (stE (gE T1 k) true (dlI (gE T1 k).wt j) (gE T1 k).wa (gE T1 k).wc) := ⟨_, rfl⟩
        rw [← hT2] at mg hL
        have gT2 : gE T2 k = (stE (gE T1 k) true (dlI (gE T1 k).wt j) (gE T1 k).wa (gE T1 k).wc) := by rw [hT2, gE_set hk1, if_pos rfl]
        have hk2 : k < T2.length := by rw [hT2, List.length_set]; exact hk1
        have lT2 : (fE T2 ++ ex).length = c * 3 := by rw [← hexl, List.length_append, List.length_append, fE_len, fE_len, hT2, List.length_set, hT1, List.length_set]
        have hgl : 0 + k * 3 + 3 ≤ (fE T2 ++ ex).length := by rw [lT2]; omega
        have hsz := hX.size
        refine xl_nil ?_
        refine xthen_normal ?_
        refine xc_seq ?_
        refine xc_seq ?_
        have hw2 : (gE T2 k).wt = dlI (gE T k).wt j := by rw [gT2]; show dlI (gE T1 k).wt j = _; rw [hw1]
        have hr2 : (gE T2 k).rn = dlI (gE T k).rn j := by rw [gT2]; show (gE T1 k).rn = _; rw [gT1]; rfl
        have hs2 : (gE T2 k).sl = (gE T k).sl := by rw [gT2]; show (gE T1 k).sl = _; rw [gT1]; rfl
        have hl2 : (gE T2 k).wt.length ≤ 8 := by rw [hw2]; exact Nat.le_trans dl_len hA3
        have hTT : T2 = T.set k (stE (gE T1 k) true (dlI (gE T1 k).wt j) (gE T1 k).wa (gE T1 k).wc) := hT2.trans (set2 hT1)
        refine xc_region ?_
        refine xl_pure rfl rfl rfl (pv_move (v := .bool _) rfl rfl) ?_
        refine xl_pure rfl rfl rfl (pv_not rfl rfl) ?_
        refine xl_pure rfl rfl rfl (pv_move (v := .bool _) rfl rfl) ?_
        refine xl_skip rfl rfl rfl ?_
        refine xl_skip rfl rfl rfl ?_
        refine xl_skip rfl rfl rfl ?_
        refine xl_skip rfl rfl rfl ?_
        refine xl_skip rfl rfl rfl ?_
        refine xl_skip rfl rfl rfl ?_
        refine xl_pure rfl rfl rfl (pv_pick_t (v := .bool _) rfl rfl rfl) ?_
        refine xl_nil ?_
        refine xthen_normal ?_
        refine xc_cond_t rfl ?_
        refine xc_seq ?_
        refine xc_region ?_
        refine xl_pure rfl rfl rfl (pv_assign (v := .int _ _) rfl rfl) ?_
        refine xl_pure rfl rfl rfl (pv_assign (v := .int _ _) rfl rfl) ?_
        refine xl_nil ?_
        refine xthen_normal ?_
        refine xc_ret ?_
        refine xthen_ret ?_
        refine fin_ret (res2 (v := .int _ _) (x := .int _ _) rfl rfl rfl) ?_
        obtain ⟨e1, e2⟩ := lev_no (T := T) (k := k) (j := j) (by first | exact .inl hi7_5 | exact .inr (by rw [← hw2]; exact List.length_eq_zero_iff.1 (by omega)))
        exact ⟨.inr ⟨k, hof, hk, by rw [e1], by rw [e2]; exact bb_set (d := ⟨(gE T k).sl, dlI (gE T k).rn j, dlI (gE T k).wt j⟩) hk (sd_lev gT1 gT2) hae hnc hcm hexl (by rw [← hTT]; exact mg) mp hm (by rw [← hTT]; exact hL) hGp hGm hGa (Nat.le_refl _)⟩, hX⟩
    · exact absurd (by decide) h2_1
  · skip
    refine xl_pure rfl rfl rfl (pv_move (v := .tuple _) rfl rfl) ?_
    refine xl_pure rfl rfl rfl (pv_extract (v := .int _ _) rfl rfl rfl) ?_
    refine xl_pure rfl rfl rfl (pv_extract (v := .int _ _) rfl rfl rfl) ?_
    refine xl_pure rfl rfl rfl (pv_assign (v := .int _ _) rfl rfl) ?_
    refine xl_pure rfl rfl rfl (pv_assign (v := .int _ _) rfl rfl) ?_
    refine xl_nil ?_
    refine xthen_normal ?_
    refine xc_seq ?_
    refine xc_seq ?_
    refine xc_region ?_
    refine xl_pure rfl rfl rfl (pv_move (v := .int _ _) rfl rfl) ?_
    refine xl_ndec rfl rfl rfl (pv_neq rfl rfl rfl) (fun h2_1 => ?_) (fun h2_1 => ?_)
    · exact absurd h2_1 (by decide)
    · skip
      refine xl_nil ?_
      refine xthen_normal ?_
      refine xc_cond_t rfl ?_
      refine xc_seq ?_
      have hm := hm.ext hN0_0.ext
      have hO := hO.ext hN0_0.ext
      have hL := hL.ext hN0_0.ext
      refine xc_region ?_
      refine xl_pure rfl rfl rfl (pv_move (v := .int _ _) rfl rfl) ?_
      refine xl_pure rfl rfl rfl (pv_assign (v := .int _ _) rfl rfl) ?_
      refine xl_pure rfl rfl rfl (pv_assign (v := .int _ _) rfl rfl) ?_
      refine xl_nil ?_
      refine xthen_normal ?_
      refine xc_ret ?_
      refine xthen_ret ?_
      refine fin_ret (res2 (v := .int _ _) (x := .int _ _) rfl rfl rfl) ?_
      exact ⟨.inl ⟨hof, rfl, ⟨T, rfl, BAt.mono (G := G) ⟨a, c, m, mp, hO, hm, hL, hGp, hGm, hGa⟩ (fun _ h => .inl h)⟩⟩, hX⟩
end Go.XG
