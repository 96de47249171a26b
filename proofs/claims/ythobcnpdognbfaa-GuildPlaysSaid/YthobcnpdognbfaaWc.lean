/-
  Walks of the seat's functions over the logic XG: each function, what it computes. Printed by a program out of wip/walks.py.
-/
import Derived.Test.YthobcnpdognbfaaI
import Derived.Test.YthobcnpdognbfaaM
import Derived.Test.YthobcnpdognbfaaWa
import Derived.Test.YthobcnpdognbfaaWb
namespace Go.XG
open Go.Proofs
set_option maxRecDepth 4000
set_option maxHeartbeats 4000000
theorem gPlace {O : Outer} {H : Heap} {bp c : Nat} {a : Option Addr} {X : List (List (List Int))} (mp : Blk H bp [.slice a X.length c] 27) (hX4 : X.length ≤ 4) (id : Int) :
    FnC Try.prog 27 #[.pointer (some ⟨bp, 0, none⟩), .int .i64 id] O H (fun v H' => (inG X id ∧ v = .tuple #[.int .i64 (id - 101), .int .i64 0] ∨ ¬ inG X id ∧ v = .tuple #[.int .i64 0, .int .i64 3]) ∧ H = H') := by
  refine fn_enter (A := [.pointer (some ⟨bp, 0, none⟩), .int .i64 id]) Try.func27 rfl rfl ?_
  have hX := Ext.refl H
  refine xc_seq ?_
  refine xc_region ?_
  refine xl_pure rfl rfl rfl (pv_assign (v := .int _ _) rfl rfl) ?_
  refine xl_pure rfl rfl rfl (pv_assign (v := .int _ _) rfl rfl) ?_
  refine xl_nil ?_
  refine xthen_normal ?_
  refine xc_seq ?_
  refine xc_block ?_
  refine xc_seq ?_
  refine xc_region ?_
  refine xl_pure rfl rfl rfl (pv_move (v := .pointer _) rfl rfl) ?_
  refine xl_pure rfl rfl rfl (pv_eql_pn rfl rfl rfl) ?_
  refine xl_pure rfl rfl rfl (pv_assign (v := .bool _) rfl rfl) ?_
  refine xl_nil ?_
  refine xthen_normal ?_
  refine xc_cond_f rfl ?_
  refine xc_seq ?_
  refine xc_region ?_
  refine xl_pure rfl rfl rfl (pv_move (v := .int _ _) rfl rfl) ?_
  refine xl_dec rfl rfl rfl (pv_lss rfl rfl rfl) (fun h3_1 => ?_) (fun h3_1 => ?_)
  · skip
    refine xl_pure rfl rfl rfl (pv_move (v := .bool _) rfl rfl) ?_
    refine xl_skip rfl rfl rfl ?_
    refine xl_skip rfl rfl rfl ?_
    refine xl_skip rfl rfl rfl ?_
    refine xl_skip rfl rfl rfl ?_
    refine xl_skip rfl rfl rfl ?_
    refine xl_skip rfl rfl rfl ?_
    refine xl_skip rfl rfl rfl ?_
    refine xl_skip rfl rfl rfl ?_
    refine xl_pure rfl rfl rfl (pv_pick_t (v := .bool _) rfl rfl rfl) ?_
    refine xl_pure rfl rfl rfl (pv_assign (v := .bool _) rfl rfl) ?_
    refine xl_nil ?_
    refine xthen_normal ?_
    refine xc_cond_t rfl ?_
    refine xc_seq ?_
    refine xc_region ?_
    refine xl_pure rfl rfl rfl (pv_assign (v := .int _ _) rfl rfl) ?_
    refine xl_pure rfl rfl rfl (pv_assign (v := .int _ _) rfl rfl) ?_
    refine xl_nil ?_
    refine xthen_normal ?_
    refine xc_ret ?_
    refine xblock_ret ?_
    refine xthen_ret ?_
    refine fin_ret (res2 (v := .int _ _) (x := .int _ _) rfl rfl rfl) ?_
    exact ⟨.inr ⟨fun h => by unfold inG at h; omega, rfl⟩, rfl⟩
  · skip
    refine xl_pure rfl rfl rfl (pv_move (v := .bool _) rfl rfl) ?_
    refine xl_pure rfl rfl rfl (pv_move (v := .int _ _) rfl rfl) ?_
    refine xl_pure rfl rfl rfl (pv_move (v := .pointer _) rfl rfl) ?_
    refine xl_pure rfl rfl rfl (pv_nilCheck_p rfl rfl) ?_
    refine xl_pure rfl rfl rfl (pv_fieldAddr rfl rfl) ?_
    refine xl_light rfl rfl rfl (lv_load (v := .slice _ _ _) rfl rfl (ld_blk mp rfl)) ?_
    refine xl_pure rfl rfl rfl (pv_len_l rfl rfl) ?_
    refine xl_pure rfl rfl rfl (pv_add rfl rfl rfl (fit_i64 (by omega))) ?_
    refine xl_dec rfl rfl rfl (pv_geq rfl rfl rfl) (fun h3_10 => ?_) (fun h3_10 => ?_)
    · skip
      refine xl_pure rfl rfl rfl (pv_pick_f (v := .bool _) rfl rfl rfl) ?_
      refine xl_pure rfl rfl rfl (pv_assign (v := .bool _) rfl rfl) ?_
      refine xl_nil ?_
      refine xthen_normal ?_
      refine xc_cond_t rfl ?_
      refine xc_seq ?_
      refine xc_region ?_
      refine xl_pure rfl rfl rfl (pv_assign (v := .int _ _) rfl rfl) ?_
      refine xl_pure rfl rfl rfl (pv_assign (v := .int _ _) rfl rfl) ?_
      refine xl_nil ?_
      refine xthen_normal ?_
      refine xc_ret ?_
      refine xblock_ret ?_
      refine xthen_ret ?_
      refine fin_ret (res2 (v := .int _ _) (x := .int _ _) rfl rfl rfl) ?_
      exact ⟨.inr ⟨fun h => by unfold inG at h; omega, rfl⟩, rfl⟩
    · skip
      refine xl_pure rfl rfl rfl (pv_pick_f (v := .bool _) rfl rfl rfl) ?_
      refine xl_pure rfl rfl rfl (pv_assign (v := .bool _) rfl rfl) ?_
      refine xl_nil ?_
      refine xthen_normal ?_
      refine xc_cond_f rfl ?_
      refine xc_skip ?_
      refine xblock_normal ?_
      refine xthen_normal ?_
      refine xc_seq ?_
      refine xc_region ?_
      refine xl_pure rfl rfl rfl (pv_move (v := .int _ _) rfl rfl) ?_
      refine xl_pure rfl rfl rfl (pv_sub rfl rfl rfl (fit_i64 (by omega))) ?_
      refine xl_pure rfl rfl rfl (pv_assign (v := .int _ _) rfl rfl) ?_
      refine xl_pure rfl rfl rfl (pv_assign (v := .int _ _) rfl rfl) ?_
      refine xl_nil ?_
      refine xthen_normal ?_
      refine xc_ret ?_
      refine fin_ret (res2 (v := .int _ _) (x := .int _ _) rfl rfl rfl) ?_
      exact ⟨.inl ⟨by unfold inG; omega, rfl⟩, rfl⟩

theorem gPlacen {O : Outer} {H : Heap} (id : Int) :
    FnC Try.prog 27 #[.pointer none, .int .i64 id] O H (fun v H' => v = .tuple #[.int .i64 0, .int .i64 1] ∧ H = H') := by
  refine fn_enter (A := [.pointer none, .int .i64 id]) Try.func27 rfl rfl ?_
  have hX := Ext.refl H
  refine xc_seq ?_
  refine xc_region ?_
  refine xl_pure rfl rfl rfl (pv_assign (v := .int _ _) rfl rfl) ?_
  refine xl_pure rfl rfl rfl (pv_assign (v := .int _ _) rfl rfl) ?_
  refine xl_nil ?_
  refine xthen_normal ?_
  refine xc_seq ?_
  refine xc_block ?_
  refine xc_seq ?_
  refine xc_region ?_
  refine xl_pure rfl rfl rfl (pv_move (v := .pointer _) rfl rfl) ?_
  refine xl_pure rfl rfl rfl (pv_eql_nn rfl rfl rfl) ?_
  refine xl_pure rfl rfl rfl (pv_assign (v := .bool _) rfl rfl) ?_
  refine xl_nil ?_
  refine xthen_normal ?_
  refine xc_cond_t rfl ?_
  refine xc_seq ?_
  refine xc_region ?_
  refine xl_pure rfl rfl rfl (pv_assign (v := .int _ _) rfl rfl) ?_
  refine xl_pure rfl rfl rfl (pv_assign (v := .int _ _) rfl rfl) ?_
  refine xl_nil ?_
  refine xthen_normal ?_
  refine xc_ret ?_
  refine xblock_ret ?_
  refine xthen_ret ?_
  refine fin_ret (res2 (v := .int _ _) (x := .int _ _) rfl rfl rfl) ?_
  exact ⟨rfl, rfl⟩

theorem gRoles {O : Outer} {H : Heap} {bp c B : Nat} {a : Option Addr} {hs : List Value} {X : List (List (List Int))} (mp : Blk H bp [.slice a X.length c] 27) (hO : Own H B 37 1 (.slice a X.length c) X.length hs) (hM : Mems H hs X) (hG : GOk X) (id ch : Int) :
    FnC Try.prog 24 #[.pointer (some ⟨bp, 0, none⟩), .int .i64 id, .int .i64 ch] O H (fun v H' => v = .tuple #[.int .i64 (rolN X id ch), .int .i64 (rolE X id ch)] ∧ Ext H H') := by
  refine fn_enter (A := [.pointer (some ⟨bp, 0, none⟩), .int .i64 id, .int .i64 ch]) Try.func24 rfl rfl ?_
  have hX := Ext.refl H
  refine xc_seq ?_
  refine xc_region ?_
  refine xl_pure rfl rfl rfl (pv_assign (v := .int _ _) rfl rfl) ?_
  refine xl_pure rfl rfl rfl (pv_assign (v := .int _ _) rfl rfl) ?_
  refine xl_nil ?_
  refine xthen_normal ?_
  refine xc_seq ?_
  refine xc_region ?_
  refine xl_pure rfl rfl rfl (pv_move (v := .pointer _) rfl rfl) ?_
  refine xl_pure rfl rfl rfl (pv_move (v := .int _ _) rfl rfl) ?_
  refine xl_heavy rfl rfl rfl (hv_call (g := 27) rfl rfl (gPlace mp (by have := hG.len; omega) id) rfl) ?_
  rintro v1_2 H1_2 ⟨hv1_2, rfl⟩
  rcases hv1_2 with ⟨hi1_2, rfl⟩ | ⟨hi1_2, rfl⟩
  · skip
    refine xl_pure rfl rfl rfl (pv_move (v := .tuple _) rfl rfl) ?_
    refine xl_pure rfl rfl rfl (pv_extract (v := .int _ _) rfl rfl rfl) ?_
    refine xl_pure rfl rfl rfl (pv_extract (v := .int _ _) rfl rfl rfl) ?_
    refine xl_pure rfl rfl rfl (pv_assign (v := .int _ _) rfl rfl) ?_
    refine xl_pure rfl rfl rfl (pv_assign (v := .int _ _) rfl rfl) ?_
    refine xl_nil ?_
    refine xthen_normal ?_
    refine xc_seq ?_
    refine xc_seq ?_
    refine xc_region ?_
    refine xl_pure rfl rfl rfl (pv_move (v := .int _ _) rfl rfl) ?_
    refine xl_ndec rfl rfl rfl (pv_neq rfl rfl rfl) (fun h2_1 => ?_) (fun h2_1 => ?_)
    · skip
      refine xl_nil ?_
      refine xthen_normal ?_
      refine xc_cond_f rfl ?_
      refine xc_skip ?_
      refine xthen_normal ?_
      refine xc_seq ?_
      refine xc_seq ?_
      obtain ⟨hix, hixv⟩ := inG_ix hi1_2
      obtain ⟨hmk, hlk⟩ := hG.at hix
      refine xc_region ?_
      refine xl_pure rfl rfl rfl (pv_move (v := .int _ _) rfl rfl) ?_
      refine xl_heavy rfl rfl rfl (hv_call (g := 28) rfl rfl (gIsChar ch) rfl) ?_
      rintro v4_1 H4_1 ⟨hv4_1, rfl⟩
      rcases hv4_1 with ⟨hi4_1, rfl⟩ | ⟨hi4_1, rfl⟩
      · skip
        refine xl_pure rfl rfl rfl (pv_not rfl rfl) ?_
        refine xl_nil ?_
        refine xthen_normal ?_
        refine xc_cond_f rfl ?_
        refine xc_skip ?_
        refine xthen_normal ?_
        refine xc_seq ?_
        obtain ⟨gb, ex, hae, mg, hBg, hnc, hcm, hexl⟩ := (own_blk2 hO).resolve_left (by omega)
        obtain ⟨ak, ck, hk1, hk2⟩ := hM.2 (ix id) (by omega)
        obtain ⟨bk, ok, hke⟩ := hk2.rows.at'
        refine xc_region ?_
        refine xl_pure rfl rfl rfl (pv_move (v := .pointer _) rfl rfl) ?_
        refine xl_pure rfl rfl rfl (pv_nilCheck_p rfl rfl) ?_
        refine xl_pure rfl rfl rfl (pv_fieldAddr rfl rfl) ?_
        refine xl_light rfl rfl rfl (lv_load (v := .slice _ _ _) rfl rfl (ld_blk mp rfl)) ?_
        refine xl_pure rfl rfl rfl (pv_move (v := .int _ _) rfl rfl) ?_
        refine xl_pure rfl rfl rfl (pv_indexAddr_l rfl (sl_eq hae) rfl (by omega)) ?_
        refine xl_light rfl rfl rfl (lv_load (v := .slice _ _ _) rfl rfl (by exact ld_hs mg hk1)) ?_
        refine xl_pure rfl rfl rfl (pv_move (v := .int _ _) rfl rfl) ?_
        refine xl_heavy rfl rfl rfl (hv_call (g := 39) rfl rfl (gFind hk2.rows hmk ch hi4_1) rfl) ?_
        rintro v6_8 H6_8 ⟨hv6_8, hE6_8⟩
        have mp := mp.ext hE6_8
        have hO := hO.ext hE6_8
        have hM := hM.ext hE6_8
        have hX := hX.trans hE6_8
        rcases hh6_8 : hasM (gM X (ix id)) ch with _ | _
        · skip
          rw [hh6_8] at hv6_8
          subst hv6_8
          refine xl_pure rfl rfl rfl (pv_move (v := .tuple _) rfl rfl) ?_
          refine xl_pure rfl rfl rfl (pv_extract (v := .int _ _) rfl rfl rfl) ?_
          refine xl_pure rfl rfl rfl (pv_extract (v := .bool _) rfl rfl rfl) ?_
          refine xl_pure rfl rfl rfl (pv_assign (v := .int _ _) rfl rfl) ?_
          refine xl_pure rfl rfl rfl (pv_assign (v := .bool _) rfl rfl) ?_
          refine xl_nil ?_
          refine xthen_normal ?_
          refine xc_seq ?_
          refine xc_seq ?_
          refine xc_region ?_
          refine xl_pure rfl rfl rfl (pv_move (v := .bool _) rfl rfl) ?_
          refine xl_pure rfl rfl rfl (pv_not rfl rfl) ?_
          refine xl_nil ?_
          refine xthen_normal ?_
          refine xc_cond_t rfl ?_
          refine xc_seq ?_
          refine xc_region ?_
          refine xl_pure rfl rfl rfl (pv_assign (v := .int _ _) rfl rfl) ?_
          refine xl_pure rfl rfl rfl (pv_assign (v := .int _ _) rfl rfl) ?_
          refine xl_nil ?_
          refine xthen_normal ?_
          refine xc_ret ?_
          refine xthen_ret ?_
          refine fin_ret (res2 (v := .int _ _) (x := .int _ _) rfl rfl rfl) ?_
          obtain ⟨e1, e2⟩ := rol_absent hi1_2 hh6_8; exact ⟨by rw [e1, e2], hX⟩
        · skip
          rw [hh6_8] at hv6_8
          subst hv6_8
          refine xl_pure rfl rfl rfl (pv_move (v := .tuple _) rfl rfl) ?_
          refine xl_pure rfl rfl rfl (pv_extract (v := .int _ _) rfl rfl rfl) ?_
          refine xl_pure rfl rfl rfl (pv_extract (v := .bool _) rfl rfl rfl) ?_
          refine xl_pure rfl rfl rfl (pv_assign (v := .int _ _) rfl rfl) ?_
          refine xl_pure rfl rfl rfl (pv_assign (v := .bool _) rfl rfl) ?_
          refine xl_nil ?_
          refine xthen_normal ?_
          refine xc_seq ?_
          refine xc_seq ?_
          refine xc_region ?_
          refine xl_pure rfl rfl rfl (pv_move (v := .bool _) rfl rfl) ?_
          refine xl_pure rfl rfl rfl (pv_not rfl rfl) ?_
          refine xl_nil ?_
          refine xthen_normal ?_
          refine xc_cond_f rfl ?_
          refine xc_skip ?_
          refine xthen_normal ?_
          refine xc_seq ?_
          obtain ⟨gb, ex, hae, mg, hBg, hnc, hcm, hexl⟩ := (own_blk2 hO).resolve_left (by omega)
          obtain ⟨ak, ck, hk1, hk2⟩ := hM.2 (ix id) (by omega)
          obtain ⟨bk, ok, hke⟩ := hk2.rows.at'
          obtain ⟨hp1, hp2⟩ := at_pos hmk.srt hh6_8
          refine xc_region ?_
          refine xl_pure rfl rfl rfl (pv_move (v := .pointer _) rfl rfl) ?_
          refine xl_pure rfl rfl rfl (pv_nilCheck_p rfl rfl) ?_
          refine xl_pure rfl rfl rfl (pv_fieldAddr rfl rfl) ?_
          refine xl_light rfl rfl rfl (lv_load (v := .slice _ _ _) rfl rfl (ld_blk mp rfl)) ?_
          refine xl_pure rfl rfl rfl (pv_move (v := .int _ _) rfl rfl) ?_
          refine xl_pure rfl rfl rfl (pv_indexAddr_l rfl (sl_eq hae) rfl (by omega)) ?_
          refine xl_light rfl rfl rfl (lv_load (v := .slice _ _ _) rfl rfl (by exact ld_hs mg hk1)) ?_
          refine xl_pure rfl rfl rfl (pv_move (v := .int _ _) rfl rfl) ?_
          refine xl_pure rfl rfl rfl (pv_indexAddr_l rfl (sl_eq (hke (by omega)).1) rfl (by omega)) ?_
          refine xl_pure rfl rfl rfl (pv_fieldAddr rfl rfl) ?_
          refine xl_light rfl rfl rfl (lv_load (v := .int _ _) rfl rfl (by exact ld_num (j := 1) (hke (by omega)).2 hmk.wide (by omega) (by decide))) ?_
          refine xl_pure rfl rfl rfl (pv_assign (v := .int _ _) rfl rfl) ?_
          refine xl_pure rfl rfl rfl (pv_assign (v := .int _ _) rfl rfl) ?_
          refine xl_nil ?_
          refine xthen_normal ?_
          refine xc_ret ?_
          refine fin_ret (res2 (v := .int _ _) (x := .int _ _) rfl rfl rfl) ?_
          obtain ⟨e1, e2⟩ := rol_yes hi1_2 hh6_8; exact ⟨by rw [e1, e2]; rfl, hX⟩
      · skip
        refine xl_pure rfl rfl rfl (pv_not rfl rfl) ?_
        refine xl_nil ?_
        refine xthen_normal ?_
        refine xc_cond_t rfl ?_
        refine xc_seq ?_
        refine xc_region ?_
        refine xl_pure rfl rfl rfl (pv_assign (v := .int _ _) rfl rfl) ?_
        refine xl_pure rfl rfl rfl (pv_assign (v := .int _ _) rfl rfl) ?_
        refine xl_nil ?_
        refine xthen_normal ?_
        refine xc_ret ?_
        refine xthen_ret ?_
        refine fin_ret (res2 (v := .int _ _) (x := .int _ _) rfl rfl rfl) ?_
        obtain ⟨e1, e2⟩ := rol_notC hG hi1_2 hi4_1; exact ⟨by rw [e1, e2], hX⟩
    · exact absurd (by decide) h2_1
  · skip
    refine xl_pure rfl rfl rfl (pv_move (v := .tuple _) rfl rfl) ?_
    refine xl_pure rfl rfl rfl (pv_extract (v := .int _ _) rfl rfl rfl) ?_
    refine xl_pure rfl rfl rfl (pv_extract (v := .int _ _) rfl rfl rfl) ?_
    refine xl_pure rfl rfl rfl (pv_assign (v := .int _ _) rfl rfl) ?_
    refine xl_pure rfl rfl rfl (pv_assign (v := .int _ _) rfl rfl) ?_
    refine xl_nil ?_
    refine xthen_normal ?_
    refine xc_seq ?_
    refine xc_seq ?_
    refine xc_region ?_
    refine xl_pure rfl rfl rfl (pv_move (v := .int _ _) rfl rfl) ?_
    refine xl_ndec rfl rfl rfl (pv_neq rfl rfl rfl) (fun h2_1 => ?_) (fun h2_1 => ?_)
    · exact absurd h2_1 (by decide)
    · skip
      refine xl_nil ?_
      refine xthen_normal ?_
      refine xc_cond_t rfl ?_
      refine xc_seq ?_
      refine xc_region ?_
      refine xl_pure rfl rfl rfl (pv_move (v := .int _ _) rfl rfl) ?_
      refine xl_pure rfl rfl rfl (pv_assign (v := .int _ _) rfl rfl) ?_
      refine xl_pure rfl rfl rfl (pv_assign (v := .int _ _) rfl rfl) ?_
      refine xl_nil ?_
      refine xthen_normal ?_
      refine xc_ret ?_
      refine xthen_ret ?_
      refine fin_ret (res2 (v := .int _ _) (x := .int _ _) rfl rfl rfl) ?_
      obtain ⟨e1, e2⟩ := rol_no (c := ch) hi1_2; exact ⟨by rw [e1, e2], hX⟩

theorem gRolesn {O : Outer} {H : Heap} (id ch : Int) :
    FnC Try.prog 24 #[.pointer none, .int .i64 id, .int .i64 ch] O H (fun v H' => v = .tuple #[.int .i64 0, .int .i64 1] ∧ Ext H H') := by
  refine fn_enter (A := [.pointer none, .int .i64 id, .int .i64 ch]) Try.func24 rfl rfl ?_
  have hX := Ext.refl H
  refine xc_seq ?_
  refine xc_region ?_
  refine xl_pure rfl rfl rfl (pv_assign (v := .int _ _) rfl rfl) ?_
  refine xl_pure rfl rfl rfl (pv_assign (v := .int _ _) rfl rfl) ?_
  refine xl_nil ?_
  refine xthen_normal ?_
  refine xc_seq ?_
  refine xc_region ?_
  refine xl_pure rfl rfl rfl (pv_move (v := .pointer _) rfl rfl) ?_
  refine xl_pure rfl rfl rfl (pv_move (v := .int _ _) rfl rfl) ?_
  refine xl_heavy rfl rfl rfl (hv_call (g := 27) rfl rfl (gPlacen id) rfl) ?_
  rintro v1_2 H1_2 ⟨rfl, rfl⟩
  refine xl_pure rfl rfl rfl (pv_move (v := .tuple _) rfl rfl) ?_
  refine xl_pure rfl rfl rfl (pv_extract (v := .int _ _) rfl rfl rfl) ?_
  refine xl_pure rfl rfl rfl (pv_extract (v := .int _ _) rfl rfl rfl) ?_
  refine xl_pure rfl rfl rfl (pv_assign (v := .int _ _) rfl rfl) ?_
  refine xl_pure rfl rfl rfl (pv_assign (v := .int _ _) rfl rfl) ?_
  refine xl_nil ?_
  refine xthen_normal ?_
  refine xc_seq ?_
  refine xc_seq ?_
  refine xc_region ?_
  refine xl_pure rfl rfl rfl (pv_move (v := .int _ _) rfl rfl) ?_
  refine xl_ndec rfl rfl rfl (pv_neq rfl rfl rfl) (fun h2_1 => ?_) (fun h2_1 => ?_)
  · exact absurd h2_1 (by decide)
  · skip
    refine xl_nil ?_
    refine xthen_normal ?_
    refine xc_cond_t rfl ?_
    refine xc_seq ?_
    refine xc_region ?_
    refine xl_pure rfl rfl rfl (pv_move (v := .int _ _) rfl rfl) ?_
    refine xl_pure rfl rfl rfl (pv_assign (v := .int _ _) rfl rfl) ?_
    refine xl_pure rfl rfl rfl (pv_assign (v := .int _ _) rfl rfl) ?_
    refine xl_nil ?_
    refine xthen_normal ?_
    refine xc_ret ?_
    refine xthen_ret ?_
    refine fin_ret (res2 (v := .int _ _) (x := .int _ _) rfl rfl rfl) ?_
    exact ⟨rfl, hX⟩

theorem gMembers {O : Outer} {H : Heap} {bp c B : Nat} {a : Option Addr} {hs : List Value} {X : List (List (List Int))} (mp : Blk H bp [.slice a X.length c] 27) (hO : Own H B 37 1 (.slice a X.length c) X.length hs) (hM : Mems H hs X) (hG : GOk X) (id : Int) :
    FnC Try.prog 11 #[.pointer (some ⟨bp, 0, none⟩), .int .i64 id] O H (fun v H' => (inG X id ∧ (∃ a' c', v = .tuple #[.slice a' (gM X (ix id)).length c', .int .i64 0] ∧ RowsT H' 41 2 a' (gM X (ix id))) ∨ ¬ inG X id ∧ v = .tuple #[.slice none 0 0, .int .i64 3]) ∧ Ext H H') := by
  refine fn_enter (A := [.pointer (some ⟨bp, 0, none⟩), .int .i64 id]) Try.func11 rfl rfl ?_
  have hX := Ext.refl H
  refine xc_seq ?_
  refine xc_region ?_
  refine xl_pure rfl rfl rfl (pv_assign (v := .slice _ _ _) rfl rfl) ?_
  refine xl_pure rfl rfl rfl (pv_assign (v := .int _ _) rfl rfl) ?_
  refine xl_nil ?_
  refine xthen_normal ?_
  refine xc_seq ?_
  refine xc_region ?_
  refine xl_pure rfl rfl rfl (pv_move (v := .pointer _) rfl rfl) ?_
  refine xl_pure rfl rfl rfl (pv_move (v := .int _ _) rfl rfl) ?_
  refine xl_heavy rfl rfl rfl (hv_call (g := 27) rfl rfl (gPlace mp (by have := hG.len; omega) id) rfl) ?_
  rintro v1_2 H1_2 ⟨hv1_2, rfl⟩
  rcases hv1_2 with ⟨hi1_2, rfl⟩ | ⟨hi1_2, rfl⟩
  · skip
    refine xl_pure rfl rfl rfl (pv_move (v := .tuple _) rfl rfl) ?_
    refine xl_pure rfl rfl rfl (pv_extract (v := .int _ _) rfl rfl rfl) ?_
    refine xl_pure rfl rfl rfl (pv_extract (v := .int _ _) rfl rfl rfl) ?_
    refine xl_pure rfl rfl rfl (pv_assign (v := .int _ _) rfl rfl) ?_
    refine xl_pure rfl rfl rfl (pv_assign (v := .int _ _) rfl rfl) ?_
    refine xl_nil ?_
    refine xthen_normal ?_
    refine xc_seq ?_
    refine xc_seq ?_
    refine xc_region ?_
    refine xl_pure rfl rfl rfl (pv_move (v := .int _ _) rfl rfl) ?_
    refine xl_ndec rfl rfl rfl (pv_neq rfl rfl rfl) (fun h2_1 => ?_) (fun h2_1 => ?_)
    · skip
      refine xl_nil ?_
      refine xthen_normal ?_
      refine xc_cond_f rfl ?_
      refine xc_skip ?_
      refine xthen_normal ?_
      refine xc_seq ?_
      obtain ⟨hix, hixv⟩ := inG_ix hi1_2
      obtain ⟨hmk, hlk⟩ := hG.at hix
      obtain ⟨gb, ex, hae, mg, hBg, hnc, hcm, hexl⟩ := (own_blk2 hO).resolve_left (by omega)
      obtain ⟨ak, ck, hk1, hk2⟩ := hM.2 (ix id) (by omega)
      obtain ⟨bk, ok, hke⟩ := hk2.rows.at'
      refine xc_region ?_
      refine xl_pure rfl rfl rfl (pv_move (v := .pointer _) rfl rfl) ?_
      refine xl_pure rfl rfl rfl (pv_nilCheck_p rfl rfl) ?_
      refine xl_pure rfl rfl rfl (pv_fieldAddr rfl rfl) ?_
      refine xl_light rfl rfl rfl (lv_load (v := .slice _ _ _) rfl rfl (ld_blk mp rfl)) ?_
      refine xl_pure rfl rfl rfl (pv_move (v := .int _ _) rfl rfl) ?_
      refine xl_pure rfl rfl rfl (pv_indexAddr_l rfl (sl_eq hae) rfl (by omega)) ?_
      refine xl_light rfl rfl rfl (lv_load (v := .slice _ _ _) rfl rfl (by exact ld_hs mg hk1)) ?_
      refine xl_heavy rfl rfl rfl (hv_call (g := 26) rfl rfl (gCloneM hk2.rows (by have := mok_len hmk; omega)) rfl) ?_
      rintro v4_7 H4_7 ⟨a4_7, c4_7, rfl, hQ4_7, hE4_7⟩
      have mp := mp.ext hE4_7
      have hO := hO.ext hE4_7
      have hM := hM.ext hE4_7
      have hX := hX.trans hE4_7
      refine xl_pure rfl rfl rfl (pv_assign (v := .slice _ _ _) rfl rfl) ?_
      refine xl_pure rfl rfl rfl (pv_assign (v := .int _ _) rfl rfl) ?_
      refine xl_nil ?_
      refine xthen_normal ?_
      refine xc_ret ?_
      refine fin_ret (res2 (v := .slice _ _ _) (x := .int _ _) rfl rfl rfl) ?_
      exact ⟨.inl ⟨hi1_2, _, _, rfl, own_rowsT hmk.wide hQ4_7⟩, hX⟩
    · exact absurd (by decide) h2_1
  · skip
    refine xl_pure rfl rfl rfl (pv_move (v := .tuple _) rfl rfl) ?_
    refine xl_pure rfl rfl rfl (pv_extract (v := .int _ _) rfl rfl rfl) ?_
    refine xl_pure rfl rfl rfl (pv_extract (v := .int _ _) rfl rfl rfl) ?_
    refine xl_pure rfl rfl rfl (pv_assign (v := .int _ _) rfl rfl) ?_
    refine xl_pure rfl rfl rfl (pv_assign (v := .int _ _) rfl rfl) ?_
    refine xl_nil ?_
    refine xthen_normal ?_
    refine xc_seq ?_
    refine xc_seq ?_
    refine xc_region ?_
    refine xl_pure rfl rfl rfl (pv_move (v := .int _ _) rfl rfl) ?_
    refine xl_ndec rfl rfl rfl (pv_neq rfl rfl rfl) (fun h2_1 => ?_) (fun h2_1 => ?_)
    · exact absurd h2_1 (by decide)
    · skip
      refine xl_nil ?_
      refine xthen_normal ?_
      refine xc_cond_t rfl ?_
      refine xc_seq ?_
      refine xc_region ?_
      refine xl_pure rfl rfl rfl (pv_move (v := .int _ _) rfl rfl) ?_
      refine xl_pure rfl rfl rfl (pv_assign (v := .slice _ _ _) rfl rfl) ?_
      refine xl_pure rfl rfl rfl (pv_assign (v := .int _ _) rfl rfl) ?_
      refine xl_nil ?_
      refine xthen_normal ?_
      refine xc_ret ?_
      refine xthen_ret ?_
      refine fin_ret (res2 (v := .slice _ _ _) (x := .int _ _) rfl rfl rfl) ?_
      exact ⟨.inr ⟨hi1_2, rfl⟩, hX⟩

theorem gMembersn {O : Outer} {H : Heap} (id : Int) :
    FnC Try.prog 11 #[.pointer none, .int .i64 id] O H (fun v H' => v = .tuple #[.slice none 0 0, .int .i64 1] ∧ Ext H H') := by
  refine fn_enter (A := [.pointer none, .int .i64 id]) Try.func11 rfl rfl ?_
  have hX := Ext.refl H
  refine xc_seq ?_
  refine xc_region ?_
  refine xl_pure rfl rfl rfl (pv_assign (v := .slice _ _ _) rfl rfl) ?_
  refine xl_pure rfl rfl rfl (pv_assign (v := .int _ _) rfl rfl) ?_
  refine xl_nil ?_
  refine xthen_normal ?_
  refine xc_seq ?_
  refine xc_region ?_
  refine xl_pure rfl rfl rfl (pv_move (v := .pointer _) rfl rfl) ?_
  refine xl_pure rfl rfl rfl (pv_move (v := .int _ _) rfl rfl) ?_
  refine xl_heavy rfl rfl rfl (hv_call (g := 27) rfl rfl (gPlacen id) rfl) ?_
  rintro v1_2 H1_2 ⟨rfl, rfl⟩
  refine xl_pure rfl rfl rfl (pv_move (v := .tuple _) rfl rfl) ?_
  refine xl_pure rfl rfl rfl (pv_extract (v := .int _ _) rfl rfl rfl) ?_
  refine xl_pure rfl rfl rfl (pv_extract (v := .int _ _) rfl rfl rfl) ?_
  refine xl_pure rfl rfl rfl (pv_assign (v := .int _ _) rfl rfl) ?_
  refine xl_pure rfl rfl rfl (pv_assign (v := .int _ _) rfl rfl) ?_
  refine xl_nil ?_
  refine xthen_normal ?_
  refine xc_seq ?_
  refine xc_seq ?_
  refine xc_region ?_
  refine xl_pure rfl rfl rfl (pv_move (v := .int _ _) rfl rfl) ?_
  refine xl_ndec rfl rfl rfl (pv_neq rfl rfl rfl) (fun h2_1 => ?_) (fun h2_1 => ?_)
  · exact absurd h2_1 (by decide)
  · skip
    refine xl_nil ?_
    refine xthen_normal ?_
    refine xc_cond_t rfl ?_
    refine xc_seq ?_
    refine xc_region ?_
    refine xl_pure rfl rfl rfl (pv_move (v := .int _ _) rfl rfl) ?_
    refine xl_pure rfl rfl rfl (pv_assign (v := .slice _ _ _) rfl rfl) ?_
    refine xl_pure rfl rfl rfl (pv_assign (v := .int _ _) rfl rfl) ?_
    refine xl_nil ?_
    refine xthen_normal ?_
    refine xc_ret ?_
    refine xthen_ret ?_
    refine fin_ret (res2 (v := .slice _ _ _) (x := .int _ _) rfl rfl rfl) ?_
    exact ⟨rfl, hX⟩

theorem gList {O : Outer} {H : Heap} {bp c B : Nat} {a : Option Addr} {hs : List Value} {X : List (List (List Int))} (mp : Blk H bp [.slice a X.length c] 27) (hO : Own H B 37 1 (.slice a X.length c) X.length hs) (hM : Mems H hs X) (hG : GOk X) :
    FnC Try.prog 8 #[.pointer (some ⟨bp, 0, none⟩)] O H (fun v H' => ∃ a' c', v = .slice a' X.length c' ∧ (∀ B', DK H' B' a' (tg X)) ∧ Ext H H') := by
  refine fn_enter (A := [.pointer (some ⟨bp, 0, none⟩)]) Try.func8 rfl rfl ?_
  have hX := Ext.refl H
  refine xc_seq ?_
  refine xc_region ?_
  refine xl_pure rfl rfl rfl (pv_assign (v := .slice _ _ _) rfl rfl) ?_
  refine xl_nil ?_
  refine xthen_normal ?_
  refine xc_seq ?_
  refine xc_seq ?_
  refine xc_region ?_
  refine xl_pure rfl rfl rfl (pv_move (v := .pointer _) rfl rfl) ?_
  refine xl_pure rfl rfl rfl (pv_eql_pn rfl rfl rfl) ?_
  refine xl_nil ?_
  refine xthen_normal ?_
  refine xc_cond_f rfl ?_
  refine xc_skip ?_
  refine xthen_normal ?_
  refine xc_seq ?_
  refine xc_region ?_
  refine xl_pure rfl rfl rfl (pv_assign (v := .slice _ _ _) rfl rfl) ?_
  refine xl_nil ?_
  refine xthen_normal ?_
  refine xc_seq ?_
  refine xc_seq ?_
  refine xc_region ?_
  refine xl_pure rfl rfl rfl (pv_move (v := .pointer _) rfl rfl) ?_
  refine xl_pure rfl rfl rfl (pv_nilCheck_p rfl rfl) ?_
  refine xl_pure rfl rfl rfl (pv_fieldAddr rfl rfl) ?_
  refine xl_light rfl rfl rfl (lv_load (v := .slice _ _ _) rfl rfl (ld_blk mp rfl)) ?_
  refine xl_pure rfl rfl rfl (pv_len_l rfl rfl) ?_
  refine xl_pure rfl rfl rfl (pv_move (v := .int _ _) rfl rfl) ?_
  refine xl_nil ?_
  refine xthen_normal ?_
  refine xc_block ?_
  refine xc_loop (τ := Nat × Option Addr × Nat × List (Int × Value)) (fun t => [(3, .slice t.2.1 t.1 t.2.2.1), (11, .slice a X.length c), (12, .int .i64 (X.length : Nat)), (13, .int .i64 (t.1 : Nat))]) (fun t H' => (t.1 ≤ X.length) ∧ (Own H' H.size 39 2 (.slice t.2.1 t.1 t.2.2.1) t.1 (ecs t.2.2.2)) ∧ (EMT H' t.2.2.2 ((tg X).take t.1)) ∧ (Own H' B 37 1 (.slice a X.length c) X.length hs) ∧ (Mems H' hs X) ∧ (Ext H H')) (fun t H' => X.length - t.1) (0, none, 0, []) ?_ ?_ ?_
  · exact ⟨rfl, rfl, rfl, rfl, trivial⟩
  · skip
    exact ⟨Nat.zero_le _, by simpa [ecs] using Own.nil _ H.size 39 2, EMT.nil, hO, hM, hX⟩
  · intro σ
    clear hX mp hO hM
    rintro ⟨k, va, vc, E⟩ Hl5 ⟨hk, ho, hEm, hO, hM, hX⟩
    replace hk : k ≤ X.length := hk
    replace ho : Own Hl5 H.size 39 2 (.slice va k vc) k (ecs E) := ho
    replace hEm : EMT Hl5 E ((tg X).take k) := hEm
    replace hO : Own Hl5 B 37 1 (.slice a X.length c) X.length hs := hO
    replace hM : Mems Hl5 hs X := hM
    replace hX : Ext H Hl5 := hX
    have h4 := hG.len
    show XC _ _ _ (upds σ [(3, .slice va k vc), (11, .slice a X.length c), (12, .int .i64 (X.length : Nat)), (13, .int .i64 (k : Nat))]) _
    refine xc_seq ?_
    refine xc_region ?_
    refine xl_dec rfl rfl rfl (pv_lss rfl rfl rfl) (fun h5_0 => ?_) (fun h5_0 => ?_)
    · skip
      refine xl_nil ?_
      refine xthen_normal ?_
      refine xc_seq ?_
      refine xc_cond_t rfl ?_
      refine xc_skip ?_
      refine xthen_normal ?_
      refine xc_seq ?_
      refine xc_block ?_
      refine xc_seq ?_
      obtain ⟨gb, ex, hae, mg, hBg, hnc, hcm, hexl⟩ := (own_blk2 hO).resolve_left (by omega)
      obtain ⟨ak, ck, hk1, hk2⟩ := hM.2 (k) (by omega)
      obtain ⟨bk, ok, hke⟩ := hk2.rows.at'
      obtain ⟨hmk, hlk⟩ := hG.at (k := k) (by omega)
      refine xc_region ?_
      refine xl_pure rfl rfl rfl (pv_move (v := .int _ _) rfl rfl) ?_
      refine xl_pure rfl rfl rfl (pv_indexAddr_l rfl (sl_eq hae) rfl (by omega)) ?_
      refine xl_light rfl rfl rfl (lv_load (v := .slice _ _ _) rfl rfl (by exact ld_hs mg hk1)) ?_
      refine xl_pure rfl rfl rfl (pv_assign (v := .int _ _) rfl rfl) ?_
      refine xl_pure rfl rfl rfl (pv_assign (v := .slice _ _ _) rfl rfl) ?_
      refine xl_nil ?_
      refine xthen_normal ?_
      have hl16 := mok_len hmk
      refine xc_region ?_
      refine xl_pure rfl rfl rfl (pv_move (v := .slice _ _ _) rfl rfl) ?_
      refine xl_pure rfl rfl rfl (pv_move (v := .int _ _) rfl rfl) ?_
      refine xl_pure rfl rfl rfl (pv_add rfl rfl rfl (fit_i64 (by omega))) ?_
      refine xl_pure rfl rfl rfl (pv_move (v := .slice _ _ _) rfl rfl) ?_
      refine xl_heavy rfl rfl rfl (hv_call (g := 26) rfl rfl (gCloneM hk2.rows (by omega)) rfl) ?_
      rintro v7_4 H7_4 ⟨a7_4, c7_4, rfl, hQ7_4, hE7_4⟩
      have hO := hO.ext hE7_4
      have hM := hM.ext hE7_4
      have ho := ho.ext hE7_4
      have hEm := hEm.ext hE7_4
      have hX := hX.trans hE7_4
      have hQ := own_rowsT hmk.wide hQ7_4
      refine xl_pure rfl rfl rfl (pv_build_s (cs := [.int _ _, .slice _ _ _]) rfl rfl rfl) ?_
      refine xl_heavy rfl rfl rfl (hv_buildSlice (cs := [.int _ _, .slice _ _ _]) rfl rfl rfl rfl rfl) ?_
      rintro v7_6 H7_6 ⟨b7_6, rfl, hN7_6⟩
      have gb7_6 := hX.fresh hN7_6
      have pm7_6_ho := ho.apartN hN7_6
      have hO := hO.ext hN7_6.ext
      have hM := hM.ext hN7_6.ext
      have ho := ho.ext hN7_6.ext
      have hEm := hEm.ext hN7_6.ext
      have hQ := hQ.ext hN7_6.ext
      have hX := hX.trans hN7_6.ext
      have m7_6 := hN7_6.blk
      refine xl_heavy rfl rfl rfl (hv_append (size := 2) rfl rfl ho rfl m7_6.row rfl (by simp [Value.oneCell']) rfl (by decide) (by omega) (by omega) hX.size) ?_
      rintro v7_7 H7_7 ⟨hO7_7, hG7_7, -, hB7_7⟩
      have hO := hO.offG ho hG7_7 (by decide)
      have hM := hM.growT ho hG7_7 (by first | rfl | assumption)
      have hEm := hEm.growT ho hG7_7 (by first | rfl | assumption)
      have hQ := hQ.growT ho hG7_7 (by first | rfl | assumption)
      have hX := ho.grown hX hG7_7 (Nat.le_refl _)
      obtain ⟨a7_7, c7_7, rfl⟩ := hO7_7.val
      refine xl_pure rfl rfl rfl (pv_assign (v := .slice _ _ _) rfl rfl) ?_
      refine xl_nil ?_
      refine xblock_normal ?_
      refine xthen_normal ?_
      refine xc_region ?_
      refine xl_pure rfl rfl rfl (pv_add rfl rfl rfl (fit_i64 (by omega))) ?_
      refine xl_pure rfl rfl rfl (pv_move (v := .int _ _) rfl rfl) ?_
      refine xl_nil ?_
      refine xthen_normal ?_
      exact ⟨(k + 1, _, _, _), ⟨rfl, rfl, rfl, rfl, trivial⟩, ⟨by (try simp only); omega, by have h := hO7_7; rw [← ecs_one1, ← ecs_app] at h; exact h, by rw [tg_take (by omega)]; exact hEm.snoc hQ, hO, hM, hX⟩, by (try simp only); omega⟩
    · skip
      refine xl_nil ?_
      refine xthen_normal ?_
      refine xc_seq ?_
      refine xc_cond_f rfl ?_
      refine xc_exit ?_
      refine xthen_exit ?_
      refine xthen_exit ?_
      refine xblock_same ?_
      refine xthen_normal ?_
      refine xc_seq ?_
      refine xc_region ?_
      refine xl_pure rfl rfl rfl (pv_move (v := .slice _ _ _) rfl rfl) ?_
      refine xl_pure rfl rfl rfl (pv_assign (v := .slice _ _ _) rfl rfl) ?_
      refine xl_nil ?_
      refine xthen_normal ?_
      refine xc_ret ?_
      refine fin_ret (res1 (v := .slice _ _ _) rfl rfl) ?_
      obtain rfl : k = X.length := by omega
      rw [List.take_of_length_le (by rw [tg_len]; omega)] at hEm
      exact ⟨_, _, rfl, fun B' => own_DK ho hEm.toB, hX⟩

theorem gListn {O : Outer} {H : Heap}  :
    FnC Try.prog 8 #[.pointer none] O H (fun v H' => v = .slice none 0 0 ∧ Ext H H') := by
  refine fn_enter (A := [.pointer none]) Try.func8 rfl rfl ?_
  have hX := Ext.refl H
  refine xc_seq ?_
  refine xc_region ?_
  refine xl_pure rfl rfl rfl (pv_assign (v := .slice _ _ _) rfl rfl) ?_
  refine xl_nil ?_
  refine xthen_normal ?_
  refine xc_seq ?_
  refine xc_seq ?_
  refine xc_region ?_
  refine xl_pure rfl rfl rfl (pv_move (v := .pointer _) rfl rfl) ?_
  refine xl_pure rfl rfl rfl (pv_eql_nn rfl rfl rfl) ?_
  refine xl_nil ?_
  refine xthen_normal ?_
  refine xc_cond_t rfl ?_
  refine xc_seq ?_
  refine xc_region ?_
  refine xl_pure rfl rfl rfl (pv_assign (v := .slice _ _ _) rfl rfl) ?_
  refine xl_nil ?_
  refine xthen_normal ?_
  refine xc_ret ?_
  refine xthen_ret ?_
  refine fin_ret (res1 (v := .slice _ _ _) rfl rfl) ?_
  exact ⟨rfl, hX⟩

theorem gClone {O : Outer} {H : Heap} {bp c B : Nat} {a : Option Addr} {hs : List Value} {X : List (List (List Int))} (mp : Blk H bp [.slice a X.length c] 27) (hO : Own H B 37 1 (.slice a X.length c) X.length hs) (hM : Mems H hs X) (hG : GOk X) :
    FnC Try.prog 7 #[.pointer (some ⟨bp, 0, none⟩)] O H (fun v H' => ∃ b, v = .pointer (some ⟨b, 0, none⟩) ∧ GAt H' b H.size X ∧ Fresh H b ∧ Ext H H') := by
  have h4 := hG.len
  refine fn_enter (A := [.pointer (some ⟨bp, 0, none⟩)]) Try.func7 rfl rfl ?_
  have hX := Ext.refl H
  refine xc_seq ?_
  refine xc_region ?_
  refine xl_pure rfl rfl rfl (pv_assign (v := .pointer _) rfl rfl) ?_
  refine xl_nil ?_
  refine xthen_normal ?_
  refine xc_seq ?_
  refine xc_seq ?_
  refine xc_region ?_
  refine xl_pure rfl rfl rfl (pv_move (v := .pointer _) rfl rfl) ?_
  refine xl_pure rfl rfl rfl (pv_eql_pn rfl rfl rfl) ?_
  refine xl_nil ?_
  refine xthen_normal ?_
  refine xc_cond_f rfl ?_
  refine xc_skip ?_
  refine xthen_normal ?_
  refine xc_seq ?_
  refine xc_region ?_
  refine xl_pure rfl rfl rfl (pv_move (v := .pointer _) rfl rfl) ?_
  refine xl_pure rfl rfl rfl (pv_nilCheck_p rfl rfl) ?_
  refine xl_pure rfl rfl rfl (pv_fieldAddr rfl rfl) ?_
  refine xl_light rfl rfl rfl (lv_load (v := .slice _ _ _) rfl rfl (ld_blk mp rfl)) ?_
  refine xl_heavy rfl rfl rfl (hv_call (g := 25) rfl rfl (gCloneA (own_src hO) hM.1 (mems_one hM) (by omega)) rfl) ?_
  rintro v3_4 H3_4 ⟨a3_4, c3_4, rfl, hQ3_4, hE3_4⟩
  have mp := mp.ext hE3_4
  have hO := hO.ext hE3_4
  have hM := hM.ext hE3_4
  have hX := hX.trans hE3_4
  refine xl_pure rfl rfl rfl (pv_build_s (cs := [.slice _ _ _]) rfl rfl rfl) ?_
  refine xl_heavy rfl rfl rfl (hv_box rfl rfl) ?_
  rintro v3_6 H3_6 ⟨b3_6, rfl, hN3_6⟩
  have gb3_6 := hX.fresh hN3_6
  have hQ := hQ3_4.ext hN3_6.ext
  have hM := hM.ext hN3_6.ext
  have hX := hX.trans hN3_6.ext
  refine xl_pure rfl rfl rfl (pv_assign (v := .pointer _) rfl rfl) ?_
  refine xl_nil ?_
  refine xthen_normal ?_
  refine xc_ret ?_
  refine fin_ret (res1 (v := .pointer _) rfl rfl) ?_
  exact ⟨_, rfl, ⟨_, _, _, hN3_6.blk, hQ, hM⟩, gb3_6, hX⟩

theorem gClonen {O : Outer} {H : Heap}  :
    FnC Try.prog 7 #[.pointer none] O H (fun v H' => ∃ b, v = .pointer (some ⟨b, 0, none⟩) ∧ GAt H' b H.size [] ∧ Fresh H b ∧ Ext H H') := by
  refine fn_enter (A := [.pointer none]) Try.func7 rfl rfl ?_
  have hX := Ext.refl H
  refine xc_seq ?_
  refine xc_region ?_
  refine xl_pure rfl rfl rfl (pv_assign (v := .pointer _) rfl rfl) ?_
  refine xl_nil ?_
  refine xthen_normal ?_
  refine xc_seq ?_
  refine xc_seq ?_
  refine xc_region ?_
  refine xl_pure rfl rfl rfl (pv_move (v := .pointer _) rfl rfl) ?_
  refine xl_pure rfl rfl rfl (pv_eql_nn rfl rfl rfl) ?_
  refine xl_nil ?_
  refine xthen_normal ?_
  refine xc_cond_t rfl ?_
  refine xc_seq ?_
  refine xc_region ?_
  refine xl_pure rfl rfl rfl (pv_build_s (cs := [.slice _ _ _]) rfl rfl rfl) ?_
  refine xl_heavy rfl rfl rfl (hv_box rfl rfl) ?_
  rintro v2_1 H2_1 ⟨b2_1, rfl, hN2_1⟩
  have gb2_1 := hX.fresh hN2_1
  have hX := hX.trans hN2_1.ext
  have m2_1 := hN2_1.blk
  refine xl_pure rfl rfl rfl (pv_assign (v := .pointer _) rfl rfl) ?_
  refine xl_nil ?_
  refine xthen_normal ?_
  refine xc_ret ?_
  refine xthen_ret ?_
  refine fin_ret (res1 (v := .pointer _) rfl rfl) ?_
  exact ⟨_, rfl, ⟨none, 0, [], m2_1, Own.nil _ _ _ _, Mems.nil⟩, gb2_1, hX⟩
end Go.XG
