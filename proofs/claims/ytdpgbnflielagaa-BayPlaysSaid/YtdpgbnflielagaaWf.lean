/-
  Walks of the seat's functions over the logic XG: each function, what it computes. Printed by a program out of wip/walks.py.
-/
import Derived.Test.YtdpgbnflielagaaI
import Derived.Test.YtdpgbnflielagaaN
import Derived.Test.YtdpgbnflielagaaWa
import Derived.Test.YtdpgbnflielagaaWb
import Derived.Test.YtdpgbnflielagaaWc
import Derived.Test.YtdpgbnflielagaaWd
import Derived.Test.YtdpgbnflielagaaWe
namespace Go.XG
open Go.Proofs
set_option maxRecDepth 4000
set_option maxHeartbeats 4000000
theorem ask {O : Outer} {H : Heap} {bp m c : Nat} {a : Option Addr} {T : List Se} {f : Fn} {G : Nat → Prop} (mp : Blk H bp [.slice a T.length c, .map (some m)] 52) (hO : Own H 0 69 3 (.slice a T.length c) T.length (fE T)) (hm : MapI H m f) (hL : LS H G T) (hGp : G bp) (hGm : G m) (hGa : ∀ j, bk a j → G j) (hT : GT T) (b o j : Int) :
    FnC Try.prog 9 #[.pointer (some ⟨bp, 0, none⟩), .int .i64 b, .int .i64 o, .int .i64 j] O H (fun v H' => v = .tuple #[.bool (askR (T.map sdE) f b o j), .int .i64 (askE (T.map sdE) f b o j)] ∧ BB H' bp (Gn G H H') (askS (T.map sdE) f b o j) (askF (T.map sdE) f b o j) ∧ KeepF G H H') := by
  have h16 := hT.len
  have hTS : (T.map sdE).length = T.length := List.length_map _
  refine fn_enter (A := [.pointer (some ⟨bp, 0, none⟩), .int .i64 b, .int .i64 o, .int .i64 j]) Try.func9 rfl rfl ?_
  have hX := KeepF.refl (G) H
  refine xc_seq ?_
  refine xc_region ?_
  refine xl_pure rfl rfl rfl (pv_assign (v := .bool _) rfl rfl) ?_
  refine xl_pure rfl rfl rfl (pv_assign (v := .int _ _) rfl rfl) ?_
  refine xl_nil ?_
  refine xthen_normal ?_
  refine xc_seq ?_
  refine xc_region ?_
  refine xl_pure rfl rfl rfl (pv_move (v := .pointer _) rfl rfl) ?_
  refine xl_pure rfl rfl rfl (pv_move (v := .int _ _) rfl rfl) ?_
  refine xl_pure rfl rfl rfl (pv_move (v := .int _ _) rfl rfl) ?_
  refine xl_heavy rfl rfl rfl (hv_call (g := 21) rfl rfl (place mp hm hT.len b o) rfl) ?_
  rintro v1_3 H1_3 ⟨hv1_3, rfl⟩
  rcases hv1_3 with ⟨hi1_3, rfl⟩ | ⟨hi1_3, rfl⟩
  · skip
    refine xl_pure rfl rfl rfl (pv_move (v := .tuple _) rfl rfl) ?_
    refine xl_pure rfl rfl rfl (pv_extract (v := .int _ _) rfl rfl rfl) ?_
    refine xl_pure rfl rfl rfl (pv_extract (v := .int _ _) rfl rfl rfl) ?_
    refine xl_pure rfl rfl rfl (pv_assign (v := .int _ _) rfl rfl) ?_
    refine xl_pure rfl rfl rfl (pv_assign (v := .int _ _) rfl rfl) ?_
    refine xl_nil ?_
    refine xthen_normal ?_
    refine xc_seq ?_
    refine xc_seq ?_
    refine xc_region ?_
    refine xl_pure rfl rfl rfl (pv_move (v := .int _ _) rfl rfl) ?_
    refine xl_ndec rfl rfl rfl (pv_neq rfl rfl rfl) (fun h2_1 => ?_) (fun h2_1 => ?_)
    · skip
      refine xl_nil ?_
      refine xthen_normal ?_
      refine xc_cond_f rfl ?_
      refine xc_skip ?_
      refine xthen_normal ?_
      refine xc_seq ?_
      refine xc_seq ?_
      refine xc_region ?_
      refine xl_pure rfl rfl rfl (pv_move (v := .int _ _) rfl rfl) ?_
      refine xl_heavy rfl rfl rfl (hv_call (g := 22) rfl rfl (isJob j) rfl) ?_
      rintro v4_1 H4_1 ⟨hv4_1, rfl⟩
      rcases hv4_1 with ⟨hi4_1, rfl⟩ | ⟨hi4_1, rfl⟩
      · skip
        refine xl_pure rfl rfl rfl (pv_not rfl rfl) ?_
        refine xl_nil ?_
        refine xthen_normal ?_
        refine xc_cond_f rfl ?_
        refine xc_skip ?_
        refine xthen_normal ?_
        refine xc_seq ?_
        refine xc_seq ?_
        have hin : inP (T.map sdE).length b o := by rw [hTS]; exact hi1_3
        refine xc_region ?_
        refine xl_pure rfl rfl rfl (pv_move (v := .pointer _) rfl rfl) ?_
        refine xl_pure rfl rfl rfl (pv_nilCheck_p rfl rfl) ?_
        refine xl_pure rfl rfl rfl (pv_fieldAddr rfl rfl) ?_
        refine xl_light rfl rfl rfl (lv_load (v := .map _) rfl rfl (ld_blk mp rfl)) ?_
        refine xl_pure rfl rfl rfl (pv_move (v := .int _ _) rfl rfl) ?_
        rcases hof : f j with _ | r
        · skip
          refine xl_light rfl rfl rfl (lv_lookI_n rfl rfl rfl hm hof) ?_
          refine xl_pure rfl rfl rfl (pv_move (v := .tuple _) rfl rfl) ?_
          refine xl_pure rfl rfl rfl (pv_extract (v := .int _ _) rfl rfl rfl) ?_
          refine xl_pure rfl rfl rfl (pv_extract (v := .bool _) rfl rfl rfl) ?_
          refine xl_pure rfl rfl rfl (pv_assign (v := .int _ _) rfl rfl) ?_
          refine xl_pure rfl rfl rfl (pv_assign (v := .bool _) rfl rfl) ?_
          refine xl_nil ?_
          refine xthen_normal ?_
          refine xc_seq ?_
          refine xc_region ?_
          refine xl_pure rfl rfl rfl (pv_move (v := .bool _) rfl rfl) ?_
          refine xl_nil ?_
          refine xthen_normal ?_
          refine xc_cond_f rfl ?_
          refine xc_skip ?_
          refine xthen_normal ?_
          refine xc_seq ?_
          obtain ⟨hk, hkv⟩ := inP_k hi1_3
          obtain ⟨gb, ex, hae, mg, -, hnc, hcm, hexl⟩ := (own_blk2 hO).resolve_left (by omega)
          have hL0 := hL
          have mgA := mg
          have hgs : gS (T.map sdE) (kP b o) = sdE (gE T (kP b o)) := gS_map hk
          have hgl : 0 + (kP b o) * 3 + 3 ≤ (fE T ++ ex).length := by rw [List.length_append, fE_len]; omega
          obtain ⟨hA1, hA2, hA3⟩ := hT.at_ _ hk
          refine xc_region ?_
          refine xl_pure rfl rfl rfl (pv_move (v := .pointer _) rfl rfl) ?_
          refine xl_pure rfl rfl rfl (pv_nilCheck_p rfl rfl) ?_
          refine xl_pure rfl rfl rfl (pv_fieldAddr rfl rfl) ?_
          refine xl_light rfl rfl rfl (lv_load (v := .slice _ _ _) rfl rfl (ld_blk mp rfl)) ?_
          refine xl_pure rfl rfl rfl (pv_move (v := .int _ _) rfl rfl) ?_
          refine xl_pure rfl rfl rfl (pv_indexAddr_l rfl (sl_eq hae) rfl (by omega)) ?_
          refine xl_pure rfl rfl rfl (pv_assign (v := .pointer _) rfl rfl) ?_
          refine xl_nil ?_
          refine xthen_normal ?_
          refine xc_seq ?_
          refine xp_start rfl (by repeat (first | with_reducible exact np_fin | with_reducible exact np_ret | with_reducible refine np_then ?_ | with_reducible refine np_block ?_)) (by kernel_rfl) ?_
          refine xp_pure (i := 0) rfl (by kernel_rfl) (by kernel_rfl) rfl rfl rfl (pv_move (v := .pointer _) rfl rfl) ?_
          refine xp_pure (i := 1) rfl (by kernel_rfl) (by kernel_rfl) rfl rfl rfl (pv_nilCheck_p rfl rfl) ?_
          refine xp_pure (i := 2) rfl (by kernel_rfl) (by kernel_rfl) rfl rfl rfl (pv_fieldAddr rfl rfl) ?_
          refine xp_light (i := 3) rfl (by kernel_rfl) (by kernel_rfl) rfl rfl rfl (lv_load (v := .slice _ _ _) rfl rfl (by exact ldE mg hk 1 rfl)) ?_
          refine xp_pure (i := 4) rfl (by kernel_rfl) (by kernel_rfl) rfl rfl rfl (pv_len_l rfl rfl) ?_
          refine xp_pure (i := 5) rfl (by kernel_rfl) (by kernel_rfl) rfl rfl rfl (pv_move (v := .pointer _) rfl rfl) ?_
          refine xp_pure (i := 6) rfl (by kernel_rfl) (by kernel_rfl) rfl rfl rfl (pv_nilCheck_p rfl rfl) ?_
          refine xp_pure (i := 7) rfl (by kernel_rfl) (by kernel_rfl) rfl rfl rfl (pv_fieldAddr rfl rfl) ?_
          refine xp_light (i := 8) rfl (by kernel_rfl) (by kernel_rfl) rfl rfl rfl (lv_load (v := .int _ _) rfl rfl (by exact ldE mg hk 0 rfl)) ?_
          refine xp_dec (i := 9) rfl (by kernel_rfl) (by kernel_rfl) rfl rfl rfl (pv_lss rfl rfl rfl) (fun h10_9 => ?_) (fun h10_9 => ?_)
          · skip
            refine xp_pure (i := 10) rfl (by kernel_rfl) (by kernel_rfl) rfl rfl rfl (pv_assign (v := .bool _) rfl rfl) ?_
            refine xp_done (by kernel_rfl) ?_
            refine xthen_normal ?_
            refine xc_seq ?_
            refine xc_block ?_
            refine xc_seq ?_
            refine xc_region ?_
            refine xl_pure rfl rfl rfl (pv_move (v := .bool _) rfl rfl) ?_
            refine xl_pure rfl rfl rfl (pv_assign (v := .bool _) rfl rfl) ?_
            refine xl_nil ?_
            refine xthen_normal ?_
            refine xc_cond_t rfl ?_
            refine xc_region ?_
            refine xl_pure rfl rfl rfl (pv_move (v := .pointer _) rfl rfl) ?_
            refine xl_pure rfl rfl rfl (pv_move (v := .int _ _) rfl rfl) ?_
            refine xl_heavy rfl rfl rfl (hv_call (g := 23) rfl rfl (runs mg hL hk (hT.at_ _ hk).1 (hT.at_ _ hk).2.1 j) rfl) ?_
            rintro v13_2 H13_2 ⟨a13_2, c13_2, mg13_2, hL13_2, hK13_2⟩
            have nbp : ¬ (bp = gb ∨ bk (adE (gE T (kP b o)) false) bp) := fun h => h.elim (fun e => (mp.ne mg rfl) e) ((hL.io (kP b o) hk false).noty mp rfl)
            have nbm : ¬ (m = gb ∨ bk (adE (gE T (kP b o)) false) m) := fun h => h.elim (fun e => (hm.blk mg).ne e.symm) (hL.mapoff hm (kP b o) false hk)
            have hm := hm.keep hK13_2 nbm
            have mp := mp.keep hK13_2 nbp
            have mg := mg13_2
            have hL := hL13_2
            have hX := hX.trans (hK13_2.mono (fun i h => h.elim (fun e => by rw [e]; exact hGa _ ⟨_, hae, rfl⟩) (hL0.own _ hk false i)))
            have hm0 := hm
            refine xl_nil ?_
            refine xblock_normal ?_
            refine xthen_normal ?_
            refine xc_seq ?_
            refine xc_region ?_
            refine xl_pure rfl rfl rfl (pv_move (v := .pointer _) rfl rfl) ?_
            refine xl_pure rfl rfl rfl (pv_nilCheck_p rfl rfl) ?_
            refine xl_pure rfl rfl rfl (pv_fieldAddr rfl rfl) ?_
            refine xl_light rfl rfl rfl (lv_load (v := .map _) rfl rfl (ld_blk mp rfl)) ?_
            refine xl_pure rfl rfl rfl (pv_move (v := .int _ _) rfl rfl) ?_
            refine xl_pure rfl rfl rfl (pv_move (v := .int _ _) rfl rfl) ?_
            refine xl_store rfl rfl (hv_putI rfl rfl rfl rfl hm) ?_
            rintro v16_6 H16_6 ⟨hm16_6, hU16_6⟩
            have mp := mp.but hU16_6 (hm0.blk mp).ne
            have mg := mg.but hU16_6 (hm0.blk mg).ne
            have hL := hL.keep (F := fun j => j = m) ⟨hU16_6.size, fun i hi hn => hU16_6.same i hi hn⟩ (fun j hj => by subst hj; exact hL.mapoff hm0)
            have hX := hX.own hU16_6 hGm
            have hm := hm16_6
            refine xl_nil ?_
            refine xthen_normal ?_
            refine xc_seq ?_
            refine xc_region ?_
            refine xl_pure rfl rfl rfl (pv_move (v := .bool _) rfl rfl) ?_
            refine xl_pure rfl rfl rfl (pv_assign (v := .bool _) rfl rfl) ?_
            refine xl_pure rfl rfl rfl (pv_assign (v := .int _ _) rfl rfl) ?_
            refine xl_nil ?_
            refine xthen_normal ?_
            refine xc_ret ?_
            refine fin_ret (res2 (v := .bool _) (x := .int _ _) rfl rfl rfl) ?_
            first
              | (obtain ⟨e1, e2, e3⟩ := ask_run (S := (T.map sdE)) (f := f) hin hi4_1 (by rw [hof]; decide) (by rw [hgs]; exact h10_9); exact ⟨e1, by rw [e2, e3, hgs]; exact bb_set hk rfl hae hnc hcm (by omega) mg mp hm hL hGp hGm hGa hU16_6.size, hX⟩)
              | (obtain ⟨e1, e2, e3⟩ := ask_wait (S := (T.map sdE)) (f := f) hin hi4_1 (by rw [hof]; decide) (by rw [hgs]; exact h10_9) (by rw [hgs]; exact fun h => h.elim h14_4 (fun h => h14_11 (by have h2 : 8 ≤ (gE T (kP b o)).wt.length := h; omega))); exact ⟨e1, by rw [e2, e3, hgs]; exact bb_set hk rfl hae hnc hcm (by omega) mg mp hm hL hGp hGm hGa hU16_6.size, hX⟩)
          · skip
            refine xp_pure (i := 10) rfl (by kernel_rfl) (by kernel_rfl) rfl rfl rfl (pv_assign (v := .bool _) rfl rfl) ?_
            refine xp_done (by kernel_rfl) ?_
            refine xthen_normal ?_
            refine xc_seq ?_
            refine xc_block ?_
            refine xc_seq ?_
            refine xc_region ?_
            refine xl_pure rfl rfl rfl (pv_move (v := .bool _) rfl rfl) ?_
            refine xl_pure rfl rfl rfl (pv_assign (v := .bool _) rfl rfl) ?_
            refine xl_nil ?_
            refine xthen_normal ?_
            refine xc_cond_f rfl ?_
            refine xc_seq ?_
            refine xc_region ?_
            refine xl_pure rfl rfl rfl (pv_move (v := .pointer _) rfl rfl) ?_
            refine xl_pure rfl rfl rfl (pv_nilCheck_p rfl rfl) ?_
            refine xl_pure rfl rfl rfl (pv_fieldAddr rfl rfl) ?_
            refine xl_light rfl rfl rfl (lv_load (v := .int _ _) rfl rfl (by exact ldE mg hk 0 rfl)) ?_
            refine xl_dec rfl rfl rfl (pv_eql rfl rfl rfl) (fun h14_4 => ?_) (fun h14_4 => ?_)
            · skip
              refine xl_pure rfl rfl rfl (pv_move (v := .bool _) rfl rfl) ?_
              refine xl_skip rfl rfl rfl ?_
              refine xl_skip rfl rfl rfl ?_
              refine xl_skip rfl rfl rfl ?_
              refine xl_skip rfl rfl rfl ?_
              refine xl_skip rfl rfl rfl ?_
              refine xl_skip rfl rfl rfl ?_
              refine xl_pure rfl rfl rfl (pv_pick_t (v := .bool _) rfl rfl rfl) ?_
              refine xl_pure rfl rfl rfl (pv_assign (v := .bool _) rfl rfl) ?_
              refine xl_nil ?_
              refine xthen_normal ?_
              refine xc_cond_t rfl ?_
              refine xc_seq ?_
              refine xc_region ?_
              refine xl_pure rfl rfl rfl (pv_assign (v := .bool _) rfl rfl) ?_
              refine xl_pure rfl rfl rfl (pv_assign (v := .int _ _) rfl rfl) ?_
              refine xl_nil ?_
              refine xthen_normal ?_
              refine xc_ret ?_
              refine xblock_ret ?_
              refine xthen_ret ?_
              refine fin_ret (res2 (v := .bool _) (x := .int _ _) rfl rfl rfl) ?_
              obtain ⟨e1, e2, e3⟩ := ask_no (S := (T.map sdE)) (f := f) (b := b) (o := o) (j := j) (askE10 hin hi4_1 (by rw [hof]; decide) (by rw [hgs]; exact h10_9) (by rw [hgs]; first | exact .inl h14_4 | exact .inr (by have := h14_11; show 8 ≤ (gE T (kP b o)).wt.length; omega))) (by decide)
              exact ⟨e1, by rw [e2, e3]; exact bb_stay ⟨a, c, m, mp, hO, hm, hL, hGp, hGm, hGa⟩, hX⟩
            · skip
              refine xl_pure rfl rfl rfl (pv_move (v := .bool _) rfl rfl) ?_
              refine xl_pure rfl rfl rfl (pv_move (v := .pointer _) rfl rfl) ?_
              refine xl_pure rfl rfl rfl (pv_nilCheck_p rfl rfl) ?_
              refine xl_pure rfl rfl rfl (pv_fieldAddr rfl rfl) ?_
              refine xl_light rfl rfl rfl (lv_load (v := .slice _ _ _) rfl rfl (by exact ldE mg hk 2 rfl)) ?_
              refine xl_pure rfl rfl rfl (pv_len_l rfl rfl) ?_
              refine xl_dec rfl rfl rfl (pv_geq rfl rfl rfl) (fun h14_11 => ?_) (fun h14_11 => ?_)
              · skip
                refine xl_pure rfl rfl rfl (pv_pick_f (v := .bool _) rfl rfl rfl) ?_
                refine xl_pure rfl rfl rfl (pv_assign (v := .bool _) rfl rfl) ?_
                refine xl_nil ?_
                refine xthen_normal ?_
                refine xc_cond_t rfl ?_
                refine xc_seq ?_
                refine xc_region ?_
                refine xl_pure rfl rfl rfl (pv_assign (v := .bool _) rfl rfl) ?_
                refine xl_pure rfl rfl rfl (pv_assign (v := .int _ _) rfl rfl) ?_
                refine xl_nil ?_
                refine xthen_normal ?_
                refine xc_ret ?_
                refine xblock_ret ?_
                refine xthen_ret ?_
                refine fin_ret (res2 (v := .bool _) (x := .int _ _) rfl rfl rfl) ?_
                obtain ⟨e1, e2, e3⟩ := ask_no (S := (T.map sdE)) (f := f) (b := b) (o := o) (j := j) (askE10 hin hi4_1 (by rw [hof]; decide) (by rw [hgs]; exact h10_9) (by rw [hgs]; first | exact .inl h14_4 | exact .inr (by have := h14_11; show 8 ≤ (gE T (kP b o)).wt.length; omega))) (by decide)
                exact ⟨e1, by rw [e2, e3]; exact bb_stay ⟨a, c, m, mp, hO, hm, hL, hGp, hGm, hGa⟩, hX⟩
              · skip
                refine xl_pure rfl rfl rfl (pv_pick_f (v := .bool _) rfl rfl rfl) ?_
                refine xl_pure rfl rfl rfl (pv_assign (v := .bool _) rfl rfl) ?_
                refine xl_nil ?_
                refine xthen_normal ?_
                refine xc_cond_f rfl ?_
                refine xc_region ?_
                refine xl_pure rfl rfl rfl (pv_move (v := .pointer _) rfl rfl) ?_
                refine xl_pure rfl rfl rfl (pv_move (v := .pointer _) rfl rfl) ?_
                refine xl_pure rfl rfl rfl (pv_nilCheck_p rfl rfl) ?_
                refine xl_pure rfl rfl rfl (pv_fieldAddr rfl rfl) ?_
                refine xl_light rfl rfl rfl (lv_load (v := .slice _ _ _) rfl rfl (by exact ldE mg hk 2 rfl)) ?_
                refine xl_pure rfl rfl rfl (pv_move (v := .int _ _) rfl rfl) ?_
                refine xl_heavy rfl rfl rfl (hv_buildSlice (cs := [.int _ _]) rfl rfl rfl rfl rfl) ?_
                rintro v11_6 H11_6 ⟨b11_6, rfl, hN11_6⟩
                have gb11_6 := hX.fresh hN11_6
                have nmp_11_6 := mp.apart hN11_6
                have mp := mp.ext hN11_6.ext
                have hX := hX.transE hN11_6.ext
                have m11_6 := hN11_6.blk
                have hm := hm.ext hN11_6.ext
                have mg := mg.ext hN11_6.ext
                have hio : IO _ (gE T (kP b o)).wa (gE T (kP b o)).wc (gE T (kP b o)).wt := (hL.io (kP b o) hk true).ext hN11_6.ext
                refine xl_heavy rfl rfl rfl (hv_append rfl rfl hio rfl m11_6.row rfl (by simp [Value.oneCell']) rfl (by decide) (by omega) (by omega) (Nat.zero_le _)) ?_
                rintro v11_7 H11_7 ⟨hO11_7, hG11_7, -, hB11_7⟩
                obtain ⟨a11_7, c11_7, rfl⟩ := hO11_7.val
                have hK := gr_keep hG11_7
                have mp := mp.keep hK (hio.noty mp rfl)
                have mg := mg.keep hK (hio.noty mg rfl)
                have hm := hm.keep hK ((hL.ext hN11_6.ext).mapoff hm (kP b o) true hk)
                have hX := hX.trans (hK.mono (fun i h => hL.own _ hk true i h))
                have hI := io_app hO11_7
                have hIB := io_bk hB11_7
                refine xl_pure rfl rfl rfl (pv_nilCheck_p rfl rfl) ?_
                refine xl_pure rfl rfl rfl (pv_fieldAddr rfl rfl) ?_
                refine xl_store rfl rfl (hv_store (vs := [.slice a11_7 ((gE T (kP b o)).wt.length + 1) c11_7]) rfl rfl rfl mg rfl (by show 0 + (kP b o) * 3 + 2 + 1 ≤ _; omega) rfl) ?_
                rintro v11_10 H11_10 ⟨hU11_10, hZ11_10⟩
                have hI := hI.but hU11_10.but (hI.noty mg rfl)
                have hm := hm.off hU11_10.but (Apart.symm (hm.blk mg))
                have mp := mp.but hU11_10.but (mp.ne mg rfl)
                have hX := hX.own hU11_10.but (hGa _ ⟨_, hae, rfl⟩)
                have hkf : KeepF (fun i => i = gb ∨ bk (adE (gE T (kP b o)) true) i) H _ := (((KeepF.refl _ H).transE hN11_6.ext).trans (hK.mono (fun i h => .inr h))).own hU11_10.but (.inl rfl)
                have mg1 := hU11_10.blk
                rw [Int.toNat_natCast, show (gE T (kP b o)).wt.length + 1 = ((gE T (kP b o)).wt ++ [j]).length by simp, stE_set (w := true) hk 2 rfl] at mg1
                have hL := hL.set (w := true) hk hkf (fun i hi => hi.elim (fun h => .inl (by rw [h]; exact hL.off mgA rfl)) .inr) hI (fun i hi => (hIB i hi).imp id (fun h => Nat.le_trans hN11_6.ext.size h))
                have mg := mg1
                have hm0 := hm
                refine xl_nil ?_
                refine xblock_normal ?_
                refine xthen_normal ?_
                refine xc_seq ?_
                refine xc_region ?_
                refine xl_pure rfl rfl rfl (pv_move (v := .pointer _) rfl rfl) ?_
                refine xl_pure rfl rfl rfl (pv_nilCheck_p rfl rfl) ?_
                refine xl_pure rfl rfl rfl (pv_fieldAddr rfl rfl) ?_
                refine xl_light rfl rfl rfl (lv_load (v := .map _) rfl rfl (ld_blk mp rfl)) ?_
                refine xl_pure rfl rfl rfl (pv_move (v := .int _ _) rfl rfl) ?_
                refine xl_pure rfl rfl rfl (pv_move (v := .int _ _) rfl rfl) ?_
                refine xl_store rfl rfl (hv_putI rfl rfl rfl rfl hm) ?_
                rintro v16_6 H16_6 ⟨hm16_6, hU16_6⟩
                have mp := mp.but hU16_6 (hm0.blk mp).ne
                have mg := mg.but hU16_6 (hm0.blk mg).ne
                have hL := hL.keep (F := fun j => j = m) ⟨hU16_6.size, fun i hi hn => hU16_6.same i hi hn⟩ (fun j hj => by subst hj; exact hL.mapoff hm0)
                have hX := hX.own hU16_6 hGm
                have hm := hm16_6
                refine xl_nil ?_
                refine xthen_normal ?_
                refine xc_seq ?_
                refine xc_region ?_
                refine xl_pure rfl rfl rfl (pv_move (v := .bool _) rfl rfl) ?_
                refine xl_pure rfl rfl rfl (pv_assign (v := .bool _) rfl rfl) ?_
                refine xl_pure rfl rfl rfl (pv_assign (v := .int _ _) rfl rfl) ?_
                refine xl_nil ?_
                refine xthen_normal ?_
                refine xc_ret ?_
                refine fin_ret (res2 (v := .bool _) (x := .int _ _) rfl rfl rfl) ?_
                first
                  | (obtain ⟨e1, e2, e3⟩ := ask_run (S := (T.map sdE)) (f := f) hin hi4_1 (by rw [hof]; decide) (by rw [hgs]; exact h10_9); exact ⟨e1, by rw [e2, e3, hgs]; exact bb_set hk rfl hae hnc hcm (by omega) mg mp hm hL hGp hGm hGa hU16_6.size, hX⟩)
                  | (obtain ⟨e1, e2, e3⟩ := ask_wait (S := (T.map sdE)) (f := f) hin hi4_1 (by rw [hof]; decide) (by rw [hgs]; exact h10_9) (by rw [hgs]; exact fun h => h.elim h14_4 (fun h => h14_11 (by have h2 : 8 ≤ (gE T (kP b o)).wt.length := h; omega))); exact ⟨e1, by rw [e2, e3, hgs]; exact bb_set hk rfl hae hnc hcm (by omega) mg mp hm hL hGp hGm hGa hU16_6.size, hX⟩)
        · skip
          refine xl_light rfl rfl rfl (lv_lookI_s rfl rfl rfl hm hof) ?_
          refine xl_pure rfl rfl rfl (pv_move (v := .tuple _) rfl rfl) ?_
          refine xl_pure rfl rfl rfl (pv_extract (v := .int _ _) rfl rfl rfl) ?_
          refine xl_pure rfl rfl rfl (pv_extract (v := .bool _) rfl rfl rfl) ?_
          refine xl_pure rfl rfl rfl (pv_assign (v := .int _ _) rfl rfl) ?_
          refine xl_pure rfl rfl rfl (pv_assign (v := .bool _) rfl rfl) ?_
          refine xl_nil ?_
          refine xthen_normal ?_
          refine xc_seq ?_
          refine xc_region ?_
          refine xl_pure rfl rfl rfl (pv_move (v := .bool _) rfl rfl) ?_
          refine xl_nil ?_
          refine xthen_normal ?_
          refine xc_cond_t rfl ?_
          refine xc_seq ?_
          refine xc_region ?_
          refine xl_pure rfl rfl rfl (pv_assign (v := .bool _) rfl rfl) ?_
          refine xl_pure rfl rfl rfl (pv_assign (v := .int _ _) rfl rfl) ?_
          refine xl_nil ?_
          refine xthen_normal ?_
          refine xc_ret ?_
          refine xthen_ret ?_
          refine fin_ret (res2 (v := .bool _) (x := .int _ _) rfl rfl rfl) ?_
          obtain ⟨e1, e2, e3⟩ := ask_no (S := (T.map sdE)) (f := f) (b := b) (o := o) (j := j) (askE9 hin hi4_1 (by rw [hof]; rfl)) (by decide)
          exact ⟨e1, by rw [e2, e3]; exact bb_stay ⟨a, c, m, mp, hO, hm, hL, hGp, hGm, hGa⟩, hX⟩
      · skip
        refine xl_pure rfl rfl rfl (pv_not rfl rfl) ?_
        refine xl_nil ?_
        refine xthen_normal ?_
        refine xc_cond_t rfl ?_
        refine xc_seq ?_
        refine xc_region ?_
        refine xl_pure rfl rfl rfl (pv_assign (v := .bool _) rfl rfl) ?_
        refine xl_pure rfl rfl rfl (pv_assign (v := .int _ _) rfl rfl) ?_
        refine xl_nil ?_
        refine xthen_normal ?_
        refine xc_ret ?_
        refine xthen_ret ?_
        refine fin_ret (res2 (v := .bool _) (x := .int _ _) rfl rfl rfl) ?_
        obtain ⟨e1, e2, e3⟩ := ask_no (S := (T.map sdE)) (f := f) (b := b) (o := o) (j := j) (askE1 (by rw [hTS]; exact hi1_3) hi4_1) (by decide)
        exact ⟨e1, by rw [e2, e3]; exact bb_stay ⟨a, c, m, mp, hO, hm, hL, hGp, hGm, hGa⟩, hX⟩
    · exact absurd (by decide) h2_1
  · skip
    refine xl_pure rfl rfl rfl (pv_move (v := .tuple _) rfl rfl) ?_
    refine xl_pure rfl rfl rfl (pv_extract (v := .int _ _) rfl rfl rfl) ?_
    refine xl_pure rfl rfl rfl (pv_extract (v := .int _ _) rfl rfl rfl) ?_
    refine xl_pure rfl rfl rfl (pv_assign (v := .int _ _) rfl rfl) ?_
    refine xl_pure rfl rfl rfl (pv_assign (v := .int _ _) rfl rfl) ?_
    refine xl_nil ?_
    refine xthen_normal ?_
    refine xc_seq ?_
    refine xc_seq ?_
    refine xc_region ?_
    refine xl_pure rfl rfl rfl (pv_move (v := .int _ _) rfl rfl) ?_
    refine xl_ndec rfl rfl rfl (pv_neq rfl rfl rfl) (fun h2_1 => ?_) (fun h2_1 => ?_)
    · exact absurd h2_1 (by decide)
    · skip
      refine xl_nil ?_
      refine xthen_normal ?_
      refine xc_cond_t rfl ?_
      refine xc_seq ?_
      refine xc_region ?_
      refine xl_pure rfl rfl rfl (pv_move (v := .int _ _) rfl rfl) ?_
      refine xl_pure rfl rfl rfl (pv_assign (v := .bool _) rfl rfl) ?_
      refine xl_pure rfl rfl rfl (pv_assign (v := .int _ _) rfl rfl) ?_
      refine xl_nil ?_
      refine xthen_normal ?_
      refine xc_ret ?_
      refine xthen_ret ?_
      refine fin_ret (res2 (v := .bool _) (x := .int _ _) rfl rfl rfl) ?_
      obtain ⟨e1, e2, e3⟩ := ask_no (S := (T.map sdE)) (f := f) (b := b) (o := o) (j := j) (askE3 (by rw [hTS]; exact hi1_3)) (by decide)
      exact ⟨e1, by rw [e2, e3]; exact bb_stay ⟨a, c, m, mp, hO, hm, hL, hGp, hGm, hGa⟩, hX⟩
end Go.XG
