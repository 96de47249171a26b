/-
  Walks of the seat's functions over the logic XG: each function, what it computes. Printed by a program out of wip/walks.py.
-/
import Derived.Test.YtdpgbnflielagaaI
import Derived.Test.YtdpgbnflielagaaN
import Derived.Test.YtdpgbnflielagaaWa
import Derived.Test.YtdpgbnflielagaaWb
import Derived.Test.YtdpgbnflielagaaWc
import Derived.Test.YtdpgbnflielagaaWd
namespace Go.XG
open Go.Proofs
set_option maxRecDepth 4000
set_option maxHeartbeats 4000000
theorem given {O : Outer} {H : Heap} {bp m c : Nat} {a : Option Addr} {T : List Se} {f : Int → Option Int} (mp : Blk H bp [.slice a T.length c, .map (some m)] 52) (hm : MapI H m f) (hT : T.length ≤ 16) :
    FnC Try.prog 29 #[.pointer (some ⟨bp, 0, none⟩)] O H (fun v H' => v = .bool true ∧ H = H') := by
  refine fn_enter (A := [.pointer (some ⟨bp, 0, none⟩)]) Try.func29 rfl rfl ?_
  have hX := Ext.refl H
  refine xc_seq ?_
  refine xc_region ?_
  refine xl_pure rfl rfl rfl (pv_assign (v := .bool _) rfl rfl) ?_
  refine xl_nil ?_
  refine xthen_normal ?_
  refine xc_seq ?_
  refine xc_region ?_
  refine xl_pure rfl rfl rfl (pv_move (v := .pointer _) rfl rfl) ?_
  refine xl_pure rfl rfl rfl (pv_neq_pn rfl rfl rfl) ?_
  refine xl_pure rfl rfl rfl (pv_move (v := .bool _) rfl rfl) ?_
  refine xl_pure rfl rfl rfl (pv_move (v := .pointer _) rfl rfl) ?_
  refine xl_pure rfl rfl rfl (pv_nilCheck_p rfl rfl) ?_
  refine xl_pure rfl rfl rfl (pv_fieldAddr rfl rfl) ?_
  refine xl_light rfl rfl rfl (lv_load (v := .map _) rfl rfl (ld_blk mp rfl)) ?_
  refine xl_pure rfl rfl rfl (pv_neq_mn rfl rfl rfl) ?_
  refine xl_pure rfl rfl rfl (pv_pick_t (v := .bool _) rfl rfl rfl) ?_
  refine xl_pure rfl rfl rfl (pv_assign (v := .bool _) rfl rfl) ?_
  refine xl_nil ?_
  refine xthen_normal ?_
  refine xc_ret ?_
  refine fin_ret (res1 (v := .bool _) rfl rfl) ?_
  exact ⟨rfl, rfl⟩

theorem givenN {O : Outer} {H : Heap}  :
    FnC Try.prog 29 #[.pointer none] O H (fun v H' => v = .bool false ∧ H = H') := by
  refine fn_enter (A := [.pointer none]) Try.func29 rfl rfl ?_
  have hX := Ext.refl H
  refine xc_seq ?_
  refine xc_region ?_
  refine xl_pure rfl rfl rfl (pv_assign (v := .bool _) rfl rfl) ?_
  refine xl_nil ?_
  refine xthen_normal ?_
  refine xc_seq ?_
  refine xc_region ?_
  refine xl_pure rfl rfl rfl (pv_move (v := .pointer _) rfl rfl) ?_
  refine xl_pure rfl rfl rfl (pv_neq_nn rfl rfl rfl) ?_
  refine xl_pure rfl rfl rfl (pv_move (v := .bool _) rfl rfl) ?_
  refine xl_skip rfl rfl rfl ?_
  refine xl_skip rfl rfl rfl ?_
  refine xl_skip rfl rfl rfl ?_
  refine xl_skip rfl rfl rfl ?_
  refine xl_skip rfl rfl rfl ?_
  refine xl_pure rfl rfl rfl (pv_pick_f (v := .bool _) rfl rfl rfl) ?_
  refine xl_pure rfl rfl rfl (pv_assign (v := .bool _) rfl rfl) ?_
  refine xl_nil ?_
  refine xthen_normal ?_
  refine xc_ret ?_
  refine fin_ret (res1 (v := .bool _) rfl rfl) ?_
  exact ⟨rfl, rfl⟩

theorem given0 {O : Outer} {H : Heap} {bp : Nat} {s : Value} (mp : Blk H bp [s, .map none] 52) :
    FnC Try.prog 29 #[.pointer (some ⟨bp, 0, none⟩)] O H (fun v H' => v = .bool false ∧ H = H') := by
  refine fn_enter (A := [.pointer (some ⟨bp, 0, none⟩)]) Try.func29 rfl rfl ?_
  have hX := Ext.refl H
  refine xc_seq ?_
  refine xc_region ?_
  refine xl_pure rfl rfl rfl (pv_assign (v := .bool _) rfl rfl) ?_
  refine xl_nil ?_
  refine xthen_normal ?_
  refine xc_seq ?_
  refine xc_region ?_
  refine xl_pure rfl rfl rfl (pv_move (v := .pointer _) rfl rfl) ?_
  refine xl_pure rfl rfl rfl (pv_neq_pn rfl rfl rfl) ?_
  refine xl_pure rfl rfl rfl (pv_move (v := .bool _) rfl rfl) ?_
  refine xl_pure rfl rfl rfl (pv_move (v := .pointer _) rfl rfl) ?_
  refine xl_pure rfl rfl rfl (pv_nilCheck_p rfl rfl) ?_
  refine xl_pure rfl rfl rfl (pv_fieldAddr rfl rfl) ?_
  refine xl_light rfl rfl rfl (lv_load (v := .map _) rfl rfl (ld_blk mp rfl)) ?_
  refine xl_pure rfl rfl rfl (pv_neq_mn rfl rfl rfl) ?_
  refine xl_pure rfl rfl rfl (pv_pick_t (v := .bool _) rfl rfl rfl) ?_
  refine xl_pure rfl rfl rfl (pv_assign (v := .bool _) rfl rfl) ?_
  refine xl_nil ?_
  refine xthen_normal ?_
  refine xc_ret ?_
  refine fin_ret (res1 (v := .bool _) rfl rfl) ?_
  exact ⟨rfl, rfl⟩

theorem place {O : Outer} {H : Heap} {bp m c : Nat} {a : Option Addr} {T : List Se} {f : Int → Option Int} (mp : Blk H bp [.slice a T.length c, .map (some m)] 52) (hm : MapI H m f) (hT : T.length ≤ 16) (b o : Int) :
    FnC Try.prog 21 #[.pointer (some ⟨bp, 0, none⟩), .int .i64 b, .int .i64 o] O H (fun v H' => ((inP T.length b o ∧ v = .tuple #[.int .i64 (kP b o : Nat), .int .i64 0] ∨ ¬ inP T.length b o ∧ v = .tuple #[.int .i64 0, .int .i64 3]) ∧ H = H')) := by
  refine fn_enter (A := [.pointer (some ⟨bp, 0, none⟩), .int .i64 b, .int .i64 o]) Try.func21 rfl rfl ?_
  have hX := Ext.refl H
  refine xc_seq ?_
  refine xc_region ?_
  refine xl_pure rfl rfl rfl (pv_assign (v := .int _ _) rfl rfl) ?_
  refine xl_pure rfl rfl rfl (pv_assign (v := .int _ _) rfl rfl) ?_
  refine xl_nil ?_
  refine xthen_normal ?_
  refine xc_seq ?_
  refine xc_block ?_
  refine xc_seq ?_
  refine xc_region ?_
  refine xl_pure rfl rfl rfl (pv_move (v := .pointer _) rfl rfl) ?_
  refine xl_heavy rfl rfl rfl (hv_call (g := 29) rfl rfl (given mp hm hT) rfl) ?_
  rintro v1_1 H1_1 ⟨rfl, rfl⟩
  refine xl_pure rfl rfl rfl (pv_not rfl rfl) ?_
  refine xl_pure rfl rfl rfl (pv_assign (v := .bool _) rfl rfl) ?_
  refine xl_nil ?_
  refine xthen_normal ?_
  refine xc_cond_f rfl ?_
  refine xc_seq ?_
  refine xc_region ?_
  refine xl_pure rfl rfl rfl (pv_move (v := .int _ _) rfl rfl) ?_
  refine xl_dec rfl rfl rfl (pv_lss rfl rfl rfl) (fun h3_1 => ?_) (fun h3_1 => ?_)
  · skip
    refine xl_pure rfl rfl rfl (pv_move (v := .bool _) rfl rfl) ?_
    refine xl_skip rfl rfl rfl ?_
    refine xl_skip rfl rfl rfl ?_
    refine xl_skip rfl rfl rfl ?_
    refine xl_skip rfl rfl rfl ?_
    refine xl_skip rfl rfl rfl ?_
    refine xl_skip rfl rfl rfl ?_
    refine xl_skip rfl rfl rfl ?_
    refine xl_skip rfl rfl rfl ?_
    refine xl_pure rfl rfl rfl (pv_pick_t (v := .bool _) rfl rfl rfl) ?_
    refine xl_pure rfl rfl rfl (pv_move (v := .bool _) rfl rfl) ?_
    refine xl_skip rfl rfl rfl ?_
    refine xl_skip rfl rfl rfl ?_
    refine xl_pure rfl rfl rfl (pv_pick_t (v := .bool _) rfl rfl rfl) ?_
    refine xl_pure rfl rfl rfl (pv_move (v := .bool _) rfl rfl) ?_
    refine xl_skip rfl rfl rfl ?_
    refine xl_skip rfl rfl rfl ?_
    refine xl_pure rfl rfl rfl (pv_pick_t (v := .bool _) rfl rfl rfl) ?_
    refine xl_pure rfl rfl rfl (pv_assign (v := .bool _) rfl rfl) ?_
    refine xl_nil ?_
    refine xthen_normal ?_
    refine xc_cond_t rfl ?_
    refine xc_seq ?_
    refine xc_region ?_
    refine xl_pure rfl rfl rfl (pv_assign (v := .int _ _) rfl rfl) ?_
    refine xl_pure rfl rfl rfl (pv_assign (v := .int _ _) rfl rfl) ?_
    refine xl_nil ?_
    refine xthen_normal ?_
    refine xc_ret ?_
    refine xblock_ret ?_
    refine xthen_ret ?_
    refine fin_ret (res2 (v := .int _ _) (x := .int _ _) rfl rfl rfl) ?_
    exact ⟨.inr ⟨fun h => by unfold inP at h; omega, rfl⟩, rfl⟩
  · skip
    refine xl_pure rfl rfl rfl (pv_move (v := .bool _) rfl rfl) ?_
    refine xl_pure rfl rfl rfl (pv_move (v := .int _ _) rfl rfl) ?_
    refine xl_pure rfl rfl rfl (pv_move (v := .pointer _) rfl rfl) ?_
    refine xl_pure rfl rfl rfl (pv_nilCheck_p rfl rfl) ?_
    refine xl_pure rfl rfl rfl (pv_fieldAddr rfl rfl) ?_
    refine xl_light rfl rfl rfl (lv_load (v := .slice _ _ _) rfl rfl (ld_blk mp rfl)) ?_
    refine xl_pure rfl rfl rfl (pv_len_l rfl rfl) ?_
    refine xl_pure rfl rfl rfl (pv_quov (r := ((T.length / 2 : Nat) : Int)) rfl rfl rfl (by decide) (quo2 (by omega))) ?_
    refine xl_dec rfl rfl rfl (pv_gtr rfl rfl rfl) (fun h3_10 => ?_) (fun h3_10 => ?_)
    · skip
      refine xl_pure rfl rfl rfl (pv_pick_f (v := .bool _) rfl rfl rfl) ?_
      refine xl_pure rfl rfl rfl (pv_move (v := .bool _) rfl rfl) ?_
      refine xl_skip rfl rfl rfl ?_
      refine xl_skip rfl rfl rfl ?_
      refine xl_pure rfl rfl rfl (pv_pick_t (v := .bool _) rfl rfl rfl) ?_
      refine xl_pure rfl rfl rfl (pv_move (v := .bool _) rfl rfl) ?_
      refine xl_skip rfl rfl rfl ?_
      refine xl_skip rfl rfl rfl ?_
      refine xl_pure rfl rfl rfl (pv_pick_t (v := .bool _) rfl rfl rfl) ?_
      refine xl_pure rfl rfl rfl (pv_assign (v := .bool _) rfl rfl) ?_
      refine xl_nil ?_
      refine xthen_normal ?_
      refine xc_cond_t rfl ?_
      refine xc_seq ?_
      refine xc_region ?_
      refine xl_pure rfl rfl rfl (pv_assign (v := .int _ _) rfl rfl) ?_
      refine xl_pure rfl rfl rfl (pv_assign (v := .int _ _) rfl rfl) ?_
      refine xl_nil ?_
      refine xthen_normal ?_
      refine xc_ret ?_
      refine xblock_ret ?_
      refine xthen_ret ?_
      refine fin_ret (res2 (v := .int _ _) (x := .int _ _) rfl rfl rfl) ?_
      exact ⟨.inr ⟨fun h => by unfold inP at h; omega, rfl⟩, rfl⟩
    · skip
      refine xl_pure rfl rfl rfl (pv_pick_f (v := .bool _) rfl rfl rfl) ?_
      refine xl_pure rfl rfl rfl (pv_move (v := .bool _) rfl rfl) ?_
      refine xl_pure rfl rfl rfl (pv_move (v := .int _ _) rfl rfl) ?_
      refine xl_dec rfl rfl rfl (pv_lss rfl rfl rfl) (fun h3_14 => ?_) (fun h3_14 => ?_)
      · skip
        refine xl_pure rfl rfl rfl (pv_pick_f (v := .bool _) rfl rfl rfl) ?_
        refine xl_pure rfl rfl rfl (pv_move (v := .bool _) rfl rfl) ?_
        refine xl_skip rfl rfl rfl ?_
        refine xl_skip rfl rfl rfl ?_
        refine xl_pure rfl rfl rfl (pv_pick_t (v := .bool _) rfl rfl rfl) ?_
        refine xl_pure rfl rfl rfl (pv_assign (v := .bool _) rfl rfl) ?_
        refine xl_nil ?_
        refine xthen_normal ?_
        refine xc_cond_t rfl ?_
        refine xc_seq ?_
        refine xc_region ?_
        refine xl_pure rfl rfl rfl (pv_assign (v := .int _ _) rfl rfl) ?_
        refine xl_pure rfl rfl rfl (pv_assign (v := .int _ _) rfl rfl) ?_
        refine xl_nil ?_
        refine xthen_normal ?_
        refine xc_ret ?_
        refine xblock_ret ?_
        refine xthen_ret ?_
        refine fin_ret (res2 (v := .int _ _) (x := .int _ _) rfl rfl rfl) ?_
        exact ⟨.inr ⟨fun h => by unfold inP at h; omega, rfl⟩, rfl⟩
      · skip
        refine xl_pure rfl rfl rfl (pv_pick_f (v := .bool _) rfl rfl rfl) ?_
        refine xl_pure rfl rfl rfl (pv_move (v := .bool _) rfl rfl) ?_
        refine xl_pure rfl rfl rfl (pv_move (v := .int _ _) rfl rfl) ?_
        refine xl_dec rfl rfl rfl (pv_geq rfl rfl rfl) (fun h3_18 => ?_) (fun h3_18 => ?_)
        · skip
          refine xl_pure rfl rfl rfl (pv_pick_f (v := .bool _) rfl rfl rfl) ?_
          refine xl_pure rfl rfl rfl (pv_assign (v := .bool _) rfl rfl) ?_
          refine xl_nil ?_
          refine xthen_normal ?_
          refine xc_cond_t rfl ?_
          refine xc_seq ?_
          refine xc_region ?_
          refine xl_pure rfl rfl rfl (pv_assign (v := .int _ _) rfl rfl) ?_
          refine xl_pure rfl rfl rfl (pv_assign (v := .int _ _) rfl rfl) ?_
          refine xl_nil ?_
          refine xthen_normal ?_
          refine xc_ret ?_
          refine xblock_ret ?_
          refine xthen_ret ?_
          refine fin_ret (res2 (v := .int _ _) (x := .int _ _) rfl rfl rfl) ?_
          exact ⟨.inr ⟨fun h => by unfold inP at h; omega, rfl⟩, rfl⟩
        · skip
          refine xl_pure rfl rfl rfl (pv_pick_f (v := .bool _) rfl rfl rfl) ?_
          refine xl_pure rfl rfl rfl (pv_assign (v := .bool _) rfl rfl) ?_
          refine xl_nil ?_
          refine xthen_normal ?_
          refine xc_cond_f rfl ?_
          refine xc_skip ?_
          refine xblock_normal ?_
          refine xthen_normal ?_
          refine xc_seq ?_
          refine xc_region ?_
          refine xl_pure rfl rfl rfl (pv_move (v := .int _ _) rfl rfl) ?_
          refine xl_pure rfl rfl rfl (pv_sub rfl rfl rfl (fit_i64 (by omega))) ?_
          refine xl_pure rfl rfl rfl (pv_mul rfl rfl rfl (fit_i64 (by omega))) ?_
          refine xl_pure rfl rfl rfl (pv_move (v := .int _ _) rfl rfl) ?_
          refine xl_pure rfl rfl rfl (pv_add rfl rfl rfl (fit_i64 (by omega))) ?_
          refine xl_pure rfl rfl rfl (pv_assign (v := .int _ _) rfl rfl) ?_
          refine xl_pure rfl rfl rfl (pv_assign (v := .int _ _) rfl rfl) ?_
          refine xl_nil ?_
          refine xthen_normal ?_
          refine xc_ret ?_
          refine fin_ret (res2 (v := .int _ _) (x := .int _ _) rfl rfl rfl) ?_
          have hi : inP T.length b o := by unfold inP; omega
          exact ⟨.inl ⟨hi, tupi3 (inP_k hi).2.symm⟩, rfl⟩

theorem placeN {O : Outer} {H : Heap} (b o : Int) :
    FnC Try.prog 21 #[.pointer none, .int .i64 b, .int .i64 o] O H (fun v H' => v = .tuple #[.int .i64 0, .int .i64 1] ∧ H = H') := by
  refine fn_enter (A := [.pointer none, .int .i64 b, .int .i64 o]) Try.func21 rfl rfl ?_
  have hX := Ext.refl H
  refine xc_seq ?_
  refine xc_region ?_
  refine xl_pure rfl rfl rfl (pv_assign (v := .int _ _) rfl rfl) ?_
  refine xl_pure rfl rfl rfl (pv_assign (v := .int _ _) rfl rfl) ?_
  refine xl_nil ?_
  refine xthen_normal ?_
  refine xc_seq ?_
  refine xc_block ?_
  refine xc_seq ?_
  refine xc_region ?_
  refine xl_pure rfl rfl rfl (pv_move (v := .pointer _) rfl rfl) ?_
  refine xl_heavy rfl rfl rfl (hv_call (g := 29) rfl rfl (givenN) rfl) ?_
  rintro v1_1 H1_1 ⟨rfl, rfl⟩
  refine xl_pure rfl rfl rfl (pv_not rfl rfl) ?_
  refine xl_pure rfl rfl rfl (pv_assign (v := .bool _) rfl rfl) ?_
  refine xl_nil ?_
  refine xthen_normal ?_
  refine xc_cond_t rfl ?_
  refine xc_seq ?_
  refine xc_region ?_
  refine xl_pure rfl rfl rfl (pv_assign (v := .int _ _) rfl rfl) ?_
  refine xl_pure rfl rfl rfl (pv_assign (v := .int _ _) rfl rfl) ?_
  refine xl_nil ?_
  refine xthen_normal ?_
  refine xc_ret ?_
  refine xblock_ret ?_
  refine xthen_ret ?_
  refine fin_ret (res2 (v := .int _ _) (x := .int _ _) rfl rfl rfl) ?_
  exact ⟨rfl, rfl⟩

theorem place0 {O : Outer} {H : Heap} {bp : Nat} {s : Value} (mp : Blk H bp [s, .map none] 52) (b o : Int) :
    FnC Try.prog 21 #[.pointer (some ⟨bp, 0, none⟩), .int .i64 b, .int .i64 o] O H (fun v H' => v = .tuple #[.int .i64 0, .int .i64 1] ∧ H = H') := by
  refine fn_enter (A := [.pointer (some ⟨bp, 0, none⟩), .int .i64 b, .int .i64 o]) Try.func21 rfl rfl ?_
  have hX := Ext.refl H
  refine xc_seq ?_
  refine xc_region ?_
  refine xl_pure rfl rfl rfl (pv_assign (v := .int _ _) rfl rfl) ?_
  refine xl_pure rfl rfl rfl (pv_assign (v := .int _ _) rfl rfl) ?_
  refine xl_nil ?_
  refine xthen_normal ?_
  refine xc_seq ?_
  refine xc_block ?_
  refine xc_seq ?_
  refine xc_region ?_
  refine xl_pure rfl rfl rfl (pv_move (v := .pointer _) rfl rfl) ?_
  refine xl_heavy rfl rfl rfl (hv_call (g := 29) rfl rfl (given0 mp) rfl) ?_
  rintro v1_1 H1_1 ⟨rfl, rfl⟩
  refine xl_pure rfl rfl rfl (pv_not rfl rfl) ?_
  refine xl_pure rfl rfl rfl (pv_assign (v := .bool _) rfl rfl) ?_
  refine xl_nil ?_
  refine xthen_normal ?_
  refine xc_cond_t rfl ?_
  refine xc_seq ?_
  refine xc_region ?_
  refine xl_pure rfl rfl rfl (pv_assign (v := .int _ _) rfl rfl) ?_
  refine xl_pure rfl rfl rfl (pv_assign (v := .int _ _) rfl rfl) ?_
  refine xl_nil ?_
  refine xthen_normal ?_
  refine xc_ret ?_
  refine xblock_ret ?_
  refine xthen_ret ?_
  refine fin_ret (res2 (v := .int _ _) (x := .int _ _) rfl rfl rfl) ?_
  exact ⟨rfl, rfl⟩

theorem find {O : Outer} {H : Heap} {bp m c : Nat} {a : Option Addr} {T : List Se} {f : Int → Option Int} (mp : Blk H bp [.slice a T.length c, .map (some m)] 52) (hm : MapI H m f) (hT : T.length ≤ 16) (j : Int) :
    FnC Try.prog 24 #[.pointer (some ⟨bp, 0, none⟩), .int .i64 j] O H (fun v H' => ((∃ r, f j = some r ∧ v = .tuple #[.int .i64 r, .int .i64 0]) ∨ (f j = none ∧ v = .tuple #[.int .i64 0, .int .i64 3])) ∧ H = H') := by
  refine fn_enter (A := [.pointer (some ⟨bp, 0, none⟩), .int .i64 j]) Try.func24 rfl rfl ?_
  have hX := Ext.refl H
  refine xc_seq ?_
  refine xc_region ?_
  refine xl_pure rfl rfl rfl (pv_assign (v := .int _ _) rfl rfl) ?_
  refine xl_pure rfl rfl rfl (pv_assign (v := .int _ _) rfl rfl) ?_
  refine xl_nil ?_
  refine xthen_normal ?_
  refine xc_seq ?_
  refine xc_seq ?_
  refine xc_region ?_
  refine xl_pure rfl rfl rfl (pv_move (v := .pointer _) rfl rfl) ?_
  refine xl_heavy rfl rfl rfl (hv_call (g := 29) rfl rfl (given mp hm hT) rfl) ?_
  rintro v1_1 H1_1 ⟨rfl, rfl⟩
  refine xl_pure rfl rfl rfl (pv_not rfl rfl) ?_
  refine xl_nil ?_
  refine xthen_normal ?_
  refine xc_cond_f rfl ?_
  refine xc_skip ?_
  refine xthen_normal ?_
  refine xc_seq ?_
  refine xc_region ?_
  refine xl_pure rfl rfl rfl (pv_move (v := .pointer _) rfl rfl) ?_
  refine xl_pure rfl rfl rfl (pv_nilCheck_p rfl rfl) ?_
  refine xl_pure rfl rfl rfl (pv_fieldAddr rfl rfl) ?_
  refine xl_light rfl rfl rfl (lv_load (v := .map _) rfl rfl (ld_blk mp rfl)) ?_
  refine xl_pure rfl rfl rfl (pv_move (v := .int _ _) rfl rfl) ?_
  rcases hof : f j with _ | r
  · skip
    refine xl_light rfl rfl rfl (lv_lookI_n rfl rfl rfl hm hof) ?_
    refine xl_pure rfl rfl rfl (pv_move (v := .tuple _) rfl rfl) ?_
    refine xl_pure rfl rfl rfl (pv_extract (v := .int _ _) rfl rfl rfl) ?_
    refine xl_pure rfl rfl rfl (pv_extract (v := .bool _) rfl rfl rfl) ?_
    refine xl_pure rfl rfl rfl (pv_assign (v := .int _ _) rfl rfl) ?_
    refine xl_pure rfl rfl rfl (pv_assign (v := .bool _) rfl rfl) ?_
    refine xl_nil ?_
    refine xthen_normal ?_
    refine xc_seq ?_
    refine xc_seq ?_
    refine xc_region ?_
    refine xl_pure rfl rfl rfl (pv_move (v := .bool _) rfl rfl) ?_
    refine xl_pure rfl rfl rfl (pv_not rfl rfl) ?_
    refine xl_nil ?_
    refine xthen_normal ?_
    refine xc_cond_t rfl ?_
    refine xc_seq ?_
    refine xc_region ?_
    refine xl_pure rfl rfl rfl (pv_assign (v := .int _ _) rfl rfl) ?_
    refine xl_pure rfl rfl rfl (pv_assign (v := .int _ _) rfl rfl) ?_
    refine xl_nil ?_
    refine xthen_normal ?_
    refine xc_ret ?_
    refine xthen_ret ?_
    refine fin_ret (res2 (v := .int _ _) (x := .int _ _) rfl rfl rfl) ?_
    exact ⟨.inr ⟨rfl, rfl⟩, rfl⟩
  · skip
    refine xl_light rfl rfl rfl (lv_lookI_s rfl rfl rfl hm hof) ?_
    refine xl_pure rfl rfl rfl (pv_move (v := .tuple _) rfl rfl) ?_
    refine xl_pure rfl rfl rfl (pv_extract (v := .int _ _) rfl rfl rfl) ?_
    refine xl_pure rfl rfl rfl (pv_extract (v := .bool _) rfl rfl rfl) ?_
    refine xl_pure rfl rfl rfl (pv_assign (v := .int _ _) rfl rfl) ?_
    refine xl_pure rfl rfl rfl (pv_assign (v := .bool _) rfl rfl) ?_
    refine xl_nil ?_
    refine xthen_normal ?_
    refine xc_seq ?_
    refine xc_seq ?_
    refine xc_region ?_
    refine xl_pure rfl rfl rfl (pv_move (v := .bool _) rfl rfl) ?_
    refine xl_pure rfl rfl rfl (pv_not rfl rfl) ?_
    refine xl_nil ?_
    refine xthen_normal ?_
    refine xc_cond_f rfl ?_
    refine xc_skip ?_
    refine xthen_normal ?_
    refine xc_seq ?_
    refine xc_region ?_
    refine xl_pure rfl rfl rfl (pv_move (v := .int _ _) rfl rfl) ?_
    refine xl_pure rfl rfl rfl (pv_assign (v := .int _ _) rfl rfl) ?_
    refine xl_pure rfl rfl rfl (pv_assign (v := .int _ _) rfl rfl) ?_
    refine xl_nil ?_
    refine xthen_normal ?_
    refine xc_ret ?_
    refine fin_ret (res2 (v := .int _ _) (x := .int _ _) rfl rfl rfl) ?_
    exact ⟨.inl ⟨r, rfl, rfl⟩, rfl⟩

theorem findN {O : Outer} {H : Heap} (j : Int) :
    FnC Try.prog 24 #[.pointer none, .int .i64 j] O H (fun v H' => v = .tuple #[.int .i64 0, .int .i64 1] ∧ H = H') := by
  refine fn_enter (A := [.pointer none, .int .i64 j]) Try.func24 rfl rfl ?_
  have hX := Ext.refl H
  refine xc_seq ?_
  refine xc_region ?_
  refine xl_pure rfl rfl rfl (pv_assign (v := .int _ _) rfl rfl) ?_
  refine xl_pure rfl rfl rfl (pv_assign (v := .int _ _) rfl rfl) ?_
  refine xl_nil ?_
  refine xthen_normal ?_
  refine xc_seq ?_
  refine xc_seq ?_
  refine xc_region ?_
  refine xl_pure rfl rfl rfl (pv_move (v := .pointer _) rfl rfl) ?_
  refine xl_heavy rfl rfl rfl (hv_call (g := 29) rfl rfl (givenN) rfl) ?_
  rintro v1_1 H1_1 ⟨rfl, rfl⟩
  refine xl_pure rfl rfl rfl (pv_not rfl rfl) ?_
  refine xl_nil ?_
  refine xthen_normal ?_
  refine xc_cond_t rfl ?_
  refine xc_seq ?_
  refine xc_region ?_
  refine xl_pure rfl rfl rfl (pv_assign (v := .int _ _) rfl rfl) ?_
  refine xl_pure rfl rfl rfl (pv_assign (v := .int _ _) rfl rfl) ?_
  refine xl_nil ?_
  refine xthen_normal ?_
  refine xc_ret ?_
  refine xthen_ret ?_
  refine fin_ret (res2 (v := .int _ _) (x := .int _ _) rfl rfl rfl) ?_
  exact ⟨rfl, rfl⟩

theorem find0 {O : Outer} {H : Heap} {bp : Nat} {s : Value} (mp : Blk H bp [s, .map none] 52) (j : Int) :
    FnC Try.prog 24 #[.pointer (some ⟨bp, 0, none⟩), .int .i64 j] O H (fun v H' => v = .tuple #[.int .i64 0, .int .i64 1] ∧ H = H') := by
  refine fn_enter (A := [.pointer (some ⟨bp, 0, none⟩), .int .i64 j]) Try.func24 rfl rfl ?_
  have hX := Ext.refl H
  refine xc_seq ?_
  refine xc_region ?_
  refine xl_pure rfl rfl rfl (pv_assign (v := .int _ _) rfl rfl) ?_
  refine xl_pure rfl rfl rfl (pv_assign (v := .int _ _) rfl rfl) ?_
  refine xl_nil ?_
  refine xthen_normal ?_
  refine xc_seq ?_
  refine xc_seq ?_
  refine xc_region ?_
  refine xl_pure rfl rfl rfl (pv_move (v := .pointer _) rfl rfl) ?_
  refine xl_heavy rfl rfl rfl (hv_call (g := 29) rfl rfl (given0 mp) rfl) ?_
  rintro v1_1 H1_1 ⟨rfl, rfl⟩
  refine xl_pure rfl rfl rfl (pv_not rfl rfl) ?_
  refine xl_nil ?_
  refine xthen_normal ?_
  refine xc_cond_t rfl ?_
  refine xc_seq ?_
  refine xc_region ?_
  refine xl_pure rfl rfl rfl (pv_assign (v := .int _ _) rfl rfl) ?_
  refine xl_pure rfl rfl rfl (pv_assign (v := .int _ _) rfl rfl) ?_
  refine xl_nil ?_
  refine xthen_normal ?_
  refine xc_ret ?_
  refine xthen_ret ?_
  refine fin_ret (res2 (v := .int _ _) (x := .int _ _) rfl rfl rfl) ?_
  exact ⟨rfl, rfl⟩
end Go.XG
