/-
  Walks of the seat's functions over the logic XG: each function, what it computes. Printed by a program out of wip/walks.py.
-/
import Derived.Test.YtbcbgjikgilpcaaI
import Derived.Test.YtbcbgjikgilpcaaM
import Derived.Test.YtbcbgjikgilpcaaGc
import Derived.Test.YtbcbgjikgilpcaaWa
import Derived.Test.YtbcbgjikgilpcaaWb
namespace Go.XG
open Go.Proofs
set_option maxRecDepth 4000
set_option maxHeartbeats 4000000
theorem gPlace {O : Outer} {H : Heap} {bp c : Nat} {a : Option Addr} {X : List (List (List Int))} (mp : Blk H bp [.slice a X.length c] 47) (hX4 : X.length ≤ 4) (id : Int) :
    FnC Try.prog 40 #[.pointer (some ⟨bp, 0, none⟩), .int .i64 id] O H (fun v H' => (inG X id ∧ v = .tuple #[.int .i64 (id - 101), .int .i64 0] ∨ ¬ inG X id ∧ v = .tuple #[.int .i64 0, .int .i64 3]) ∧ H = H') := by
  refine fn_enter (A := [.pointer (some ⟨bp, 0, none⟩), .int .i64 id]) Try.func40 rfl rfl ?_
  have hX := Ext.refl H
  refine xc_seq ?_
  refine xc_region ?_
  refine xl_pure rfl rfl rfl (pv_assign (v := .int _ _) rfl rfl) ?_
  refine xl_pure rfl rfl rfl (pv_assign (v := .int _ _) rfl rfl) ?_
  refine xl_nil ?_
  refine xthen_normal ?_
  refine xc_seq ?_
  refine xc_block ?_
  refine xc_seq ?_
  refine xc_region ?_
  refine xl_pure rfl rfl rfl (pv_move (v := .pointer _) rfl rfl) ?_
  refine xl_pure rfl rfl rfl (pv_eql_pn rfl rfl rfl) ?_
  refine xl_pure rfl rfl rfl (pv_assign (v := .bool _) rfl rfl) ?_
  refine xl_nil ?_
  refine xthen_normal ?_
  refine xc_cond_f rfl ?_
  refine xc_seq ?_
  refine xc_region ?_
  refine xl_pure rfl rfl rfl (pv_move (v := .int _ _) rfl rfl) ?_
  refine xl_dec rfl rfl rfl (pv_lss rfl rfl rfl) (fun h3_1 => ?_) (fun h3_1 => ?_)
  · skip
    refine xl_pure rfl rfl rfl (pv_move (v := .bool _) rfl rfl) ?_
    refine xl_skip rfl rfl rfl ?_
    refine xl_skip rfl rfl rfl ?_
    refine xl_skip rfl rfl rfl ?_
    refine xl_skip rfl rfl rfl ?_
    refine xl_skip rfl rfl rfl ?_
    refine xl_skip rfl rfl rfl ?_
    refine xl_skip rfl rfl rfl ?_
    refine xl_skip rfl rfl rfl ?_
    refine xl_pure rfl rfl rfl (pv_pick_t (v := .bool _) rfl rfl rfl) ?_
    refine xl_pure rfl rfl rfl (pv_assign (v := .bool _) rfl rfl) ?_
    refine xl_nil ?_
    refine xthen_normal ?_
    refine xc_cond_t rfl ?_
    refine xc_seq ?_
    refine xc_region ?_
    refine xl_pure rfl rfl rfl (pv_assign (v := .int _ _) rfl rfl) ?_
    refine xl_pure rfl rfl rfl (pv_assign (v := .int _ _) rfl rfl) ?_
    refine xl_nil ?_
    refine xthen_normal ?_
    refine xc_ret ?_
    refine xblock_ret ?_
    refine xthen_ret ?_
    refine fin_ret (res2 (v := .int _ _) (x := .int _ _) rfl rfl rfl) ?_
    exact ⟨.inr ⟨fun h => by unfold inG at h; omega, rfl⟩, rfl⟩
  · skip
    refine xl_pure rfl rfl rfl (pv_move (v := .bool _) rfl rfl) ?_
    refine xl_pure rfl rfl rfl (pv_move (v := .int _ _) rfl rfl) ?_
    refine xl_pure rfl rfl rfl (pv_move (v := .pointer _) rfl rfl) ?_
    refine xl_pure rfl rfl rfl (pv_nilCheck_p rfl rfl) ?_
    refine xl_pure rfl rfl rfl (pv_fieldAddr rfl rfl) ?_
    refine xl_light rfl rfl rfl (lv_load (v := .slice _ _ _) rfl rfl (ld_blk mp rfl)) ?_
    refine xl_pure rfl rfl rfl (pv_len_l rfl rfl) ?_
    refine xl_pure rfl rfl rfl (pv_add rfl rfl rfl (fit_i64 (by omega))) ?_
    refine xl_dec rfl rfl rfl (pv_geq rfl rfl rfl) (fun h3_10 => ?_) (fun h3_10 => ?_)
    · skip
      refine xl_pure rfl rfl rfl (pv_pick_f (v := .bool _) rfl rfl rfl) ?_
      refine xl_pure rfl rfl rfl (pv_assign (v := .bool _) rfl rfl) ?_
      refine xl_nil ?_
      refine xthen_normal ?_
      refine xc_cond_t rfl ?_
      refine xc_seq ?_
      refine xc_region ?_
      refine xl_pure rfl rfl rfl (pv_assign (v := .int _ _) rfl rfl) ?_
      refine xl_pure rfl rfl rfl (pv_assign (v := .int _ _) rfl rfl) ?_
      refine xl_nil ?_
      refine xthen_normal ?_
      refine xc_ret ?_
      refine xblock_ret ?_
      refine xthen_ret ?_
      refine fin_ret (res2 (v := .int _ _) (x := .int _ _) rfl rfl rfl) ?_
      exact ⟨.inr ⟨fun h => by unfold inG at h; omega, rfl⟩, rfl⟩
    · skip
      refine xl_pure rfl rfl rfl (pv_pick_f (v := .bool _) rfl rfl rfl) ?_
      refine xl_pure rfl rfl rfl (pv_assign (v := .bool _) rfl rfl) ?_
      refine xl_nil ?_
      refine xthen_normal ?_
      refine xc_cond_f rfl ?_
      refine xc_skip ?_
      refine xblock_normal ?_
      refine xthen_normal ?_
      refine xc_seq ?_
      refine xc_region ?_
      refine xl_pure rfl rfl rfl (pv_move (v := .int _ _) rfl rfl) ?_
      refine xl_pure rfl rfl rfl (pv_sub rfl rfl rfl (fit_i64 (by omega))) ?_
      refine xl_pure rfl rfl rfl (pv_assign (v := .int _ _) rfl rfl) ?_
      refine xl_pure rfl rfl rfl (pv_assign (v := .int _ _) rfl rfl) ?_
      refine xl_nil ?_
      refine xthen_normal ?_
      refine xc_ret ?_
      refine fin_ret (res2 (v := .int _ _) (x := .int _ _) rfl rfl rfl) ?_
      exact ⟨.inl ⟨by unfold inG; omega, rfl⟩, rfl⟩

theorem gPlacen {O : Outer} {H : Heap} (id : Int) :
    FnC Try.prog 40 #[.pointer none, .int .i64 id] O H (fun v H' => v = .tuple #[.int .i64 0, .int .i64 1] ∧ H = H') := by
  refine fn_enter (A := [.pointer none, .int .i64 id]) Try.func40 rfl rfl ?_
  have hX := Ext.refl H
  refine xc_seq ?_
  refine xc_region ?_
  refine xl_pure rfl rfl rfl (pv_assign (v := .int _ _) rfl rfl) ?_
  refine xl_pure rfl rfl rfl (pv_assign (v := .int _ _) rfl rfl) ?_
  refine xl_nil ?_
  refine xthen_normal ?_
  refine xc_seq ?_
  refine xc_block ?_
  refine xc_seq ?_
  refine xc_region ?_
  refine xl_pure rfl rfl rfl (pv_move (v := .pointer _) rfl rfl) ?_
  refine xl_pure rfl rfl rfl (pv_eql_nn rfl rfl rfl) ?_
  refine xl_pure rfl rfl rfl (pv_assign (v := .bool _) rfl rfl) ?_
  refine xl_nil ?_
  refine xthen_normal ?_
  refine xc_cond_t rfl ?_
  refine xc_seq ?_
  refine xc_region ?_
  refine xl_pure rfl rfl rfl (pv_assign (v := .int _ _) rfl rfl) ?_
  refine xl_pure rfl rfl rfl (pv_assign (v := .int _ _) rfl rfl) ?_
  refine xl_nil ?_
  refine xthen_normal ?_
  refine xc_ret ?_
  refine xblock_ret ?_
  refine xthen_ret ?_
  refine fin_ret (res2 (v := .int _ _) (x := .int _ _) rfl rfl rfl) ?_
  exact ⟨rfl, rfl⟩

theorem gRoles {O : Outer} {H : Heap} {bp c B : Nat} {a : Option Addr} {hs : List Value} {X : List (List (List Int))} (mp : Blk H bp [.slice a X.length c] 47) (hO : Own H B 52 1 (.slice a X.length c) X.length hs) (hM : Mems H hs X) (hG : GOk X) (id ch : Int) :
    FnC Try.prog 34 #[.pointer (some ⟨bp, 0, none⟩), .int .i64 id, .int .i64 ch] O H (fun v H' => v = .tuple #[.int .i64 (rolN X id ch), .int .i64 (rolE X id ch)] ∧ Ext H H') := by
  refine fn_enter (A := [.pointer (some ⟨bp, 0, none⟩), .int .i64 id, .int .i64 ch]) Try.func34 rfl rfl ?_
  have hX := Ext.refl H
  refine xc_seq ?_
  refine xc_region ?_
  refine xl_pure rfl rfl rfl (pv_assign (v := .int _ _) rfl rfl) ?_
  refine xl_pure rfl rfl rfl (pv_assign (v := .int _ _) rfl rfl) ?_
  refine xl_nil ?_
  refine xthen_normal ?_
  refine xc_seq ?_
  refine xc_region ?_
  refine xl_pure rfl rfl rfl (pv_move (v := .pointer _) rfl rfl) ?_
  refine xl_pure rfl rfl rfl (pv_move (v := .int _ _) rfl rfl) ?_
  refine xl_heavy rfl rfl rfl (hv_call (g := 40) rfl rfl (gPlace mp (by have := hG.len; omega) id) rfl) ?_
  rintro v1_2 H1_2 ⟨hv1_2, rfl⟩
  rcases hv1_2 with ⟨hi1_2, rfl⟩ | ⟨hi1_2, rfl⟩
  · skip
    refine xl_pure rfl rfl rfl (pv_move (v := .tuple _) rfl rfl) ?_
    refine xl_pure rfl rfl rfl (pv_extract (v := .int _ _) rfl rfl rfl) ?_
    refine xl_pure rfl rfl rfl (pv_extract (v := .int _ _) rfl rfl rfl) ?_
    refine xl_pure rfl rfl rfl (pv_assign (v := .int _ _) rfl rfl) ?_
    refine xl_pure rfl rfl rfl (pv_assign (v := .int _ _) rfl rfl) ?_
    refine xl_nil ?_
    refine xthen_normal ?_
    refine xc_seq ?_
    refine xc_seq ?_
    refine xc_region ?_
    refine xl_pure rfl rfl rfl (pv_move (v := .int _ _) rfl rfl) ?_
    refine xl_ndec rfl rfl rfl (pv_neq rfl rfl rfl) (fun h2_1 => ?_) (fun h2_1 => ?_)
    · skip
      refine xl_nil ?_
      refine xthen_normal ?_
      refine xc_cond_f rfl ?_
      refine xc_skip ?_
      refine xthen_normal ?_
      refine xc_seq ?_
      refine xc_seq ?_
      obtain ⟨hix, hixv⟩ := inG_ix hi1_2
      obtain ⟨hmk, hlk⟩ := hG.at hix
      refine xc_region ?_
      refine xl_pure rfl rfl rfl (pv_move (v := .int _ _) rfl rfl) ?_
      refine xl_heavy rfl rfl rfl (hv_call (g := 26) rfl rfl (gIsChar ch) rfl) ?_
      rintro v4_1 H4_1 ⟨hv4_1, rfl⟩
      rcases hv4_1 with ⟨hi4_1, rfl⟩ | ⟨hi4_1, rfl⟩
      · skip
        refine xl_pure rfl rfl rfl (pv_not rfl rfl) ?_
        refine xl_nil ?_
        refine xthen_normal ?_
        refine xc_cond_f rfl ?_
        refine xc_skip ?_
        refine xthen_normal ?_
        refine xc_seq ?_
        obtain ⟨gb, ex, hae, mg, hBg, hnc, hcm, hexl⟩ := (own_blk2 hO).resolve_left (by omega)
        obtain ⟨ak, ck, hk1, hk2⟩ := hM.2 (ix id) (by omega)
        obtain ⟨bk, ok, hke⟩ := hk2.rows.at'
        refine xc_region ?_
        refine xl_pure rfl rfl rfl (pv_move (v := .pointer _) rfl rfl) ?_
        refine xl_pure rfl rfl rfl (pv_nilCheck_p rfl rfl) ?_
        refine xl_pure rfl rfl rfl (pv_fieldAddr rfl rfl) ?_
        refine xl_light rfl rfl rfl (lv_load (v := .slice _ _ _) rfl rfl (ld_blk mp rfl)) ?_
        refine xl_pure rfl rfl rfl (pv_move (v := .int _ _) rfl rfl) ?_
        refine xl_pure rfl rfl rfl (pv_indexAddr_l rfl (sl_eq hae) rfl (by omega)) ?_
        refine xl_light rfl rfl rfl (lv_load (v := .slice _ _ _) rfl rfl (by exact ld_hs mg hk1)) ?_
        refine xl_pure rfl rfl rfl (pv_move (v := .int _ _) rfl rfl) ?_
        refine xl_heavy rfl rfl rfl (hv_call (g := 41) rfl rfl (gFind hk2.rows hmk ch hi4_1) rfl) ?_
        rintro v6_8 H6_8 ⟨hv6_8, hE6_8⟩
        have mp := mp.ext hE6_8
        have hO := hO.ext hE6_8
        have hM := hM.ext hE6_8
        have hX := hX.trans hE6_8
        rcases hh6_8 : hasM (gM X (ix id)) ch with _ | _
        · skip
          rw [hh6_8] at hv6_8
          subst hv6_8
          refine xl_pure rfl rfl rfl (pv_move (v := .tuple _) rfl rfl) ?_
          refine xl_pure rfl rfl rfl (pv_extract (v := .int _ _) rfl rfl rfl) ?_
          refine xl_pure rfl rfl rfl (pv_extract (v := .bool _) rfl rfl rfl) ?_
          refine xl_pure rfl rfl rfl (pv_assign (v := .int _ _) rfl rfl) ?_
          refine xl_pure rfl rfl rfl (pv_assign (v := .bool _) rfl rfl) ?_
          refine xl_nil ?_
          refine xthen_normal ?_
          refine xc_seq ?_
          refine xc_seq ?_
          refine xc_region ?_
          refine xl_pure rfl rfl rfl (pv_move (v := .bool _) rfl rfl) ?_
          refine xl_pure rfl rfl rfl (pv_not rfl rfl) ?_
          refine xl_nil ?_
          refine xthen_normal ?_
          refine xc_cond_t rfl ?_
          refine xc_seq ?_
          refine xc_region ?_
          refine xl_pure rfl rfl rfl (pv_assign (v := .int _ _) rfl rfl) ?_
          refine xl_pure rfl rfl rfl (pv_assign (v := .int _ _) rfl rfl) ?_
          refine xl_nil ?_
          refine xthen_normal ?_
          refine xc_ret ?_
          refine xthen_ret ?_
          refine fin_ret (res2 (v := .int _ _) (x := .int _ _) rfl rfl rfl) ?_
          obtain ⟨e1, e2⟩ := rol_absent hi1_2 hh6_8; exact ⟨by rw [e1, e2], hX⟩
        · skip
          rw [hh6_8] at hv6_8
          subst hv6_8
          refine xl_pure rfl rfl rfl (pv_move (v := .tuple _) rfl rfl) ?_
          refine xl_pure rfl rfl rfl (pv_extract (v := .int _ _) rfl rfl rfl) ?_
          refine xl_pure rfl rfl rfl (pv_extract (v := .bool _) rfl rfl rfl) ?_
          refine xl_pure rfl rfl rfl (pv_assign (v := .int _ _) rfl rfl) ?_
          refine xl_pure rfl rfl rfl (pv_assign (v := .bool _) rfl rfl) ?_
          refine xl_nil ?_
          refine xthen_normal ?_
          refine xc_seq ?_
          refine xc_seq ?_
          refine xc_region ?_
          refine xl_pure rfl rfl rfl (pv_move (v := .bool _) rfl rfl) ?_
          refine xl_pure rfl rfl rfl (pv_not rfl rfl) ?_
          refine xl_nil ?_
          refine xthen_normal ?_
          refine xc_cond_f rfl ?_
          refine xc_skip ?_
          refine xthen_normal ?_
          refine xc_seq ?_
          obtain ⟨gb, ex, hae, mg, hBg, hnc, hcm, hexl⟩ := (own_blk2 hO).resolve_left (by omega)
          obtain ⟨ak, ck, hk1, hk2⟩ := hM.2 (ix id) (by omega)
          obtain ⟨bk, ok, hke⟩ := hk2.rows.at'
          obtain ⟨hp1, hp2⟩ := at_pos hmk.srt hh6_8
          refine xc_region ?_
          refine xl_pure rfl rfl rfl (pv_move (v := .pointer _) rfl rfl) ?_
          refine xl_pure rfl rfl rfl (pv_nilCheck_p rfl rfl) ?_
          refine xl_pure rfl rfl rfl (pv_fieldAddr rfl rfl) ?_
          refine xl_light rfl rfl rfl (lv_load (v := .slice _ _ _) rfl rfl (ld_blk mp rfl)) ?_
          refine xl_pure rfl rfl rfl (pv_move (v := .int _ _) rfl rfl) ?_
          refine xl_pure rfl rfl rfl (pv_indexAddr_l rfl (sl_eq hae) rfl (by omega)) ?_
          refine xl_light rfl rfl rfl (lv_load (v := .slice _ _ _) rfl rfl (by exact ld_hs mg hk1)) ?_
          refine xl_pure rfl rfl rfl (pv_move (v := .int _ _) rfl rfl) ?_
          refine xl_pure rfl rfl rfl (pv_indexAddr_l rfl (sl_eq (hke (by omega)).1) rfl (by omega)) ?_
          refine xl_pure rfl rfl rfl (pv_fieldAddr rfl rfl) ?_
          refine xl_light rfl rfl rfl (lv_load (v := .int _ _) rfl rfl (by exact ld_num (j := 1) (hke (by omega)).2 hmk.wide (by omega) (by decide))) ?_
          refine xl_pure rfl rfl rfl (pv_assign (v := .int _ _) rfl rfl) ?_
          refine xl_pure rfl rfl rfl (pv_assign (v := .int _ _) rfl rfl) ?_
          refine xl_nil ?_
          refine xthen_normal ?_
          refine xc_ret ?_
          refine fin_ret (res2 (v := .int _ _) (x := .int _ _) rfl rfl rfl) ?_
          obtain ⟨e1, e2⟩ := rol_yes hi1_2 hh6_8; exact ⟨by rw [e1, e2]; rfl, hX⟩
      · skip
        refine xl_pure rfl rfl rfl (pv_not rfl rfl) ?_
        refine xl_nil ?_
        refine xthen_normal ?_
        refine xc_cond_t rfl ?_
        refine xc_seq ?_
        refine xc_region ?_
        refine xl_pure rfl rfl rfl (pv_assign (v := .int _ _) rfl rfl) ?_
        refine xl_pure rfl rfl rfl (pv_assign (v := .int _ _) rfl rfl) ?_
        refine xl_nil ?_
        refine xthen_normal ?_
        refine xc_ret ?_
        refine xthen_ret ?_
        refine fin_ret (res2 (v := .int _ _) (x := .int _ _) rfl rfl rfl) ?_
        obtain ⟨e1, e2⟩ := rol_notC hG hi1_2 hi4_1; exact ⟨by rw [e1, e2], hX⟩
    · exact absurd (by decide) h2_1
  · skip
    refine xl_pure rfl rfl rfl (pv_move (v := .tuple _) rfl rfl) ?_
    refine xl_pure rfl rfl rfl (pv_extract (v := .int _ _) rfl rfl rfl) ?_
    refine xl_pure rfl rfl rfl (pv_extract (v := .int _ _) rfl rfl rfl) ?_
    refine xl_pure rfl rfl rfl (pv_assign (v := .int _ _) rfl rfl) ?_
    refine xl_pure rfl rfl rfl (pv_assign (v := .int _ _) rfl rfl) ?_
    refine xl_nil ?_
    refine xthen_normal ?_
    refine xc_seq ?_
    refine xc_seq ?_
    refine xc_region ?_
    refine xl_pure rfl rfl rfl (pv_move (v := .int _ _) rfl rfl) ?_
    refine xl_ndec rfl rfl rfl (pv_neq rfl rfl rfl) (fun h2_1 => ?_) (fun h2_1 => ?_)
    · exact absurd h2_1 (by decide)
    · skip
      refine xl_nil ?_
      refine xthen_normal ?_
      refine xc_cond_t rfl ?_
      refine xc_seq ?_
      refine xc_region ?_
      refine xl_pure rfl rfl rfl (pv_move (v := .int _ _) rfl rfl) ?_
      refine xl_pure rfl rfl rfl (pv_assign (v := .int _ _) rfl rfl) ?_
      refine xl_pure rfl rfl rfl (pv_assign (v := .int _ _) rfl rfl) ?_
      refine xl_nil ?_
      refine xthen_normal ?_
      refine xc_ret ?_
      refine xthen_ret ?_
      refine fin_ret (res2 (v := .int _ _) (x := .int _ _) rfl rfl rfl) ?_
      obtain ⟨e1, e2⟩ := rol_no (c := ch) hi1_2; exact ⟨by rw [e1, e2], hX⟩

theorem gRolesn {O : Outer} {H : Heap} (id ch : Int) :
    FnC Try.prog 34 #[.pointer none, .int .i64 id, .int .i64 ch] O H (fun v H' => v = .tuple #[.int .i64 0, .int .i64 1] ∧ Ext H H') := by
  refine fn_enter (A := [.pointer none, .int .i64 id, .int .i64 ch]) Try.func34 rfl rfl ?_
  have hX := Ext.refl H
  refine xc_seq ?_
  refine xc_region ?_
  refine xl_pure rfl rfl rfl (pv_assign (v := .int _ _) rfl rfl) ?_
  refine xl_pure rfl rfl rfl (pv_assign (v := .int _ _) rfl rfl) ?_
  refine xl_nil ?_
  refine xthen_normal ?_
  refine xc_seq ?_
  refine xc_region ?_
  refine xl_pure rfl rfl rfl (pv_move (v := .pointer _) rfl rfl) ?_
  refine xl_pure rfl rfl rfl (pv_move (v := .int _ _) rfl rfl) ?_
  refine xl_heavy rfl rfl rfl (hv_call (g := 40) rfl rfl (gPlacen id) rfl) ?_
  rintro v1_2 H1_2 ⟨rfl, rfl⟩
  refine xl_pure rfl rfl rfl (pv_move (v := .tuple _) rfl rfl) ?_
  refine xl_pure rfl rfl rfl (pv_extract (v := .int _ _) rfl rfl rfl) ?_
  refine xl_pure rfl rfl rfl (pv_extract (v := .int _ _) rfl rfl rfl) ?_
  refine xl_pure rfl rfl rfl (pv_assign (v := .int _ _) rfl rfl) ?_
  refine xl_pure rfl rfl rfl (pv_assign (v := .int _ _) rfl rfl) ?_
  refine xl_nil ?_
  refine xthen_normal ?_
  refine xc_seq ?_
  refine xc_seq ?_
  refine xc_region ?_
  refine xl_pure rfl rfl rfl (pv_move (v := .int _ _) rfl rfl) ?_
  refine xl_ndec rfl rfl rfl (pv_neq rfl rfl rfl) (fun h2_1 => ?_) (fun h2_1 => ?_)
  · exact absurd h2_1 (by decide)
  · skip
    refine xl_nil ?_
    refine xthen_normal ?_
    refine xc_cond_t rfl ?_
    refine xc_seq ?_
    refine xc_region ?_
    refine xl_pure rfl rfl rfl (pv_move (v := .int _ _) rfl rfl) ?_
    refine xl_pure rfl rfl rfl (pv_assign (v := .int _ _) rfl rfl) ?_
    refine xl_pure rfl rfl rfl (pv_assign (v := .int _ _) rfl rfl) ?_
    refine xl_nil ?_
    refine xthen_normal ?_
    refine xc_ret ?_
    refine xthen_ret ?_
    refine fin_ret (res2 (v := .int _ _) (x := .int _ _) rfl rfl rfl) ?_
    exact ⟨rfl, hX⟩

theorem gMembers {O : Outer} {H : Heap} {bp c B : Nat} {a : Option Addr} {hs : List Value} {X : List (List (List Int))} (mp : Blk H bp [.slice a X.length c] 47) (hO : Own H B 52 1 (.slice a X.length c) X.length hs) (hM : Mems H hs X) (hG : GOk X) (id : Int) :
    FnC Try.prog 38 #[.pointer (some ⟨bp, 0, none⟩), .int .i64 id] O H (fun v H' => (inG X id ∧ (∃ a' c', v = .tuple #[.slice a' (gM X (ix id)).length c', .int .i64 0] ∧ RowsT H' 56 2 a' (gM X (ix id))) ∨ ¬ inG X id ∧ v = .tuple #[.slice none 0 0, .int .i64 3]) ∧ Ext H H') := by
  refine fn_enter (A := [.pointer (some ⟨bp, 0, none⟩), .int .i64 id]) Try.func38 rfl rfl ?_
  have hX := Ext.refl H
  refine xc_seq ?_
  refine xc_region ?_
  refine xl_pure rfl rfl rfl (pv_assign (v := .slice _ _ _) rfl rfl) ?_
  refine xl_pure rfl rfl rfl (pv_assign (v := .int _ _) rfl rfl) ?_
  refine xl_nil ?_
  refine xthen_normal ?_
  refine xc_seq ?_
  refine xc_region ?_
  refine xl_pure rfl rfl rfl (pv_move (v := .pointer _) rfl rfl) ?_
  refine xl_pure rfl rfl rfl (pv_move (v := .int _ _) rfl rfl) ?_
  refine xl_heavy rfl rfl rfl (hv_call (g := 40) rfl rfl (gPlace mp (by have := hG.len; omega) id) rfl) ?_
  rintro v1_2 H1_2 ⟨hv1_2, rfl⟩
  rcases hv1_2 with ⟨hi1_2, rfl⟩ | ⟨hi1_2, rfl⟩
  · skip
    refine xl_pure rfl rfl rfl (pv_move (v := .tuple _) rfl rfl) ?_
    refine xl_pure rfl rfl rfl (pv_extract (v := .int _ _) rfl rfl rfl) ?_
    refine xl_pure rfl rfl rfl (pv_extract (v := .int _ _) rfl rfl rfl) ?_
    refine xl_pure rfl rfl rfl (pv_assign (v := .int _ _) rfl rfl) ?_
    refine xl_pure rfl rfl rfl (pv_assign (v := .int _ _) rfl rfl) ?_
    refine xl_nil ?_
    refine xthen_normal ?_
    refine xc_seq ?_
    refine xc_seq ?_
    refine xc_region ?_
    refine xl_pure rfl rfl rfl (pv_move (v := .int _ _) rfl rfl) ?_
    refine xl_ndec rfl rfl rfl (pv_neq rfl rfl rfl) (fun h2_1 => ?_) (fun h2_1 => ?_)
    · skip
      refine xl_nil ?_
      refine xthen_normal ?_
      refine xc_cond_f rfl ?_
      refine xc_skip ?_
      refine xthen_normal ?_
      refine xc_seq ?_
      obtain ⟨hix, hixv⟩ := inG_ix hi1_2
      obtain ⟨hmk, hlk⟩ := hG.at hix
      obtain ⟨gb, ex, hae, mg, hBg, hnc, hcm, hexl⟩ := (own_blk2 hO).resolve_left (by omega)
      obtain ⟨ak, ck, hk1, hk2⟩ := hM.2 (ix id) (by omega)
      obtain ⟨bk, ok, hke⟩ := hk2.rows.at'
      refine xc_region ?_
      refine xl_pure rfl rfl rfl (pv_move (v := .pointer _) rfl rfl) ?_
      refine xl_pure rfl rfl rfl (pv_nilCheck_p rfl rfl) ?_
      refine xl_pure rfl rfl rfl (pv_fieldAddr rfl rfl) ?_
      refine xl_light rfl rfl rfl (lv_load (v := .slice _ _ _) rfl rfl (ld_blk mp rfl)) ?_
      refine xl_pure rfl rfl rfl (pv_move (v := .int _ _) rfl rfl) ?_
      refine xl_pure rfl rfl rfl (pv_indexAddr_l rfl (sl_eq hae) rfl (by omega)) ?_
      refine xl_light rfl rfl rfl (lv_load (v := .slice _ _ _) rfl rfl (by exact ld_hs mg hk1)) ?_
      refine xl_heavy rfl rfl rfl (hv_call (g := 29) rfl rfl (gCloneM hk2.rows (by have := mok_len hmk; omega)) rfl) ?_
      rintro v4_7 H4_7 ⟨a4_7, c4_7, rfl, hQ4_7, hE4_7⟩
      have mp := mp.ext hE4_7
      have hO := hO.ext hE4_7
      have hM := hM.ext hE4_7
      have hX := hX.trans hE4_7
      refine xl_pure rfl rfl rfl (pv_assign (v := .slice _ _ _) rfl rfl) ?_
      refine xl_pure rfl rfl rfl (pv_assign (v := .int _ _) rfl rfl) ?_
      refine xl_nil ?_
      refine xthen_normal ?_
      refine xc_ret ?_
      refine fin_ret (res2 (v := .slice _ _ _) (x := .int _ _) rfl rfl rfl) ?_
      exact ⟨.inl ⟨hi1_2, _, _, rfl, own_rowsT hmk.wide hQ4_7⟩, hX⟩
    · exact absurd (by decide) h2_1
  · skip
    refine xl_pure rfl rfl rfl (pv_move (v := .tuple _) rfl rfl) ?_
    refine xl_pure rfl rfl rfl (pv_extract (v := .int _ _) rfl rfl rfl) ?_
    refine xl_pure rfl rfl rfl (pv_extract (v := .int _ _) rfl rfl rfl) ?_
    refine xl_pure rfl rfl rfl (pv_assign (v := .int _ _) rfl rfl) ?_
    refine xl_pure rfl rfl rfl (pv_assign (v := .int _ _) rfl rfl) ?_
    refine xl_nil ?_
    refine xthen_normal ?_
    refine xc_seq ?_
    refine xc_seq ?_
    refine xc_region ?_
    refine xl_pure rfl rfl rfl (pv_move (v := .int _ _) rfl rfl) ?_
    refine xl_ndec rfl rfl rfl (pv_neq rfl rfl rfl) (fun h2_1 => ?_) (fun h2_1 => ?_)
    · exact absurd h2_1 (by decide)
    · skip
      refine xl_nil ?_
      refine xthen_normal ?_
      refine xc_cond_t rfl ?_
      refine xc_seq ?_
      refine xc_region ?_
      refine xl_pure rfl rfl rfl (pv_move (v := .int _ _) rfl rfl) ?_
      refine xl_pure rfl rfl rfl (pv_assign (v := .slice _ _ _) rfl rfl) ?_
      refine xl_pure rfl rfl rfl (pv_assign (v := .int _ _) rfl rfl) ?_
      refine xl_nil ?_
      refine xthen_normal ?_
      refine xc_ret ?_
      refine xthen_ret ?_
      refine fin_ret (res2 (v := .slice _ _ _) (x := .int _ _) rfl rfl rfl) ?_
      exact ⟨.inr ⟨hi1_2, rfl⟩, hX⟩

theorem gMembersn {O : Outer} {H : Heap} (id : Int) :
    FnC Try.prog 38 #[.pointer none, .int .i64 id] O H (fun v H' => v = .tuple #[.slice none 0 0, .int .i64 1] ∧ Ext H H') := by
  refine fn_enter (A := [.pointer none, .int .i64 id]) Try.func38 rfl rfl ?_
  have hX := Ext.refl H
  refine xc_seq ?_
  refine xc_region ?_
  refine xl_pure rfl rfl rfl (pv_assign (v := .slice _ _ _) rfl rfl) ?_
  refine xl_pure rfl rfl rfl (pv_assign (v := .int _ _) rfl rfl) ?_
  refine xl_nil ?_
  refine xthen_normal ?_
  refine xc_seq ?_
  refine xc_region ?_
  refine xl_pure rfl rfl rfl (pv_move (v := .pointer _) rfl rfl) ?_
  refine xl_pure rfl rfl rfl (pv_move (v := .int _ _) rfl rfl) ?_
  refine xl_heavy rfl rfl rfl (hv_call (g := 40) rfl rfl (gPlacen id) rfl) ?_
  rintro v1_2 H1_2 ⟨rfl, rfl⟩
  refine xl_pure rfl rfl rfl (pv_move (v := .tuple _) rfl rfl) ?_
  refine xl_pure rfl rfl rfl (pv_extract (v := .int _ _) rfl rfl rfl) ?_
  refine xl_pure rfl rfl rfl (pv_extract (v := .int _ _) rfl rfl rfl) ?_
  refine xl_pure rfl rfl rfl (pv_assign (v := .int _ _) rfl rfl) ?_
  refine xl_pure rfl rfl rfl (pv_assign (v := .int _ _) rfl rfl) ?_
  refine xl_nil ?_
  refine xthen_normal ?_
  refine xc_seq ?_
  refine xc_seq ?_
  refine xc_region ?_
  refine xl_pure rfl rfl rfl (pv_move (v := .int _ _) rfl rfl) ?_
  refine xl_ndec rfl rfl rfl (pv_neq rfl rfl rfl) (fun h2_1 => ?_) (fun h2_1 => ?_)
  · exact absurd h2_1 (by decide)
  · skip
    refine xl_nil ?_
    refine xthen_normal ?_
    refine xc_cond_t rfl ?_
    refine xc_seq ?_
    refine xc_region ?_
    refine xl_pure rfl rfl rfl (pv_move (v := .int _ _) rfl rfl) ?_
    refine xl_pure rfl rfl rfl (pv_assign (v := .slice _ _ _) rfl rfl) ?_
    refine xl_pure rfl rfl rfl (pv_assign (v := .int _ _) rfl rfl) ?_
    refine xl_nil ?_
    refine xthen_normal ?_
    refine xc_ret ?_
    refine xthen_ret ?_
    refine fin_ret (res2 (v := .slice _ _ _) (x := .int _ _) rfl rfl rfl) ?_
    exact ⟨rfl, hX⟩
end Go.XG
