/-
  Walks of the seat's functions over the logic XG: each function, what it computes. Printed by a program out of wip/walks.py.
-/
import Derived.Test.YtbcbgjikgilpcaaI
import Derived.Test.YtbcbgjikgilpcaaM
import Derived.Test.YtbcbgjikgilpcaaGc
import Derived.Test.YtbcbgjikgilpcaaWa
import Derived.Test.YtbcbgjikgilpcaaWb
import Derived.Test.YtbcbgjikgilpcaaWc
namespace Go.XG
open Go.Proofs
set_option maxRecDepth 4000
set_option maxHeartbeats 4000000
theorem gFound {O : Outer} {H : Heap} {bp c B : Nat} {a : Option Addr} {hs : List Value} {X : List (List (List Int))} (mp : Blk H bp [.slice a X.length c] 47) (hO : Own H B 52 1 (.slice a X.length c) X.length hs) (hM : Mems H hs X) (hG : GOk X) (hB : B ≤ H.size) (ch : Int) :
    FnC Try.prog 21 #[.pointer (some ⟨bp, 0, none⟩), .int .i64 ch] O H (fun v H' => v = .tuple #[.int .i64 (fouN X ch), .int .i64 (fouE X ch)] ∧ GAt H' bp B (fouX X ch) ∧ KeepF (GF H bp B) H H') := by
  have h4 := hG.len
  have hGF := own_GF (bp := bp) hO
  refine fn_enter (A := [.pointer (some ⟨bp, 0, none⟩), .int .i64 ch]) Try.func21 rfl rfl ?_
  have hX := KeepF.refl (GF H bp B) H
  refine xc_seq ?_
  refine xc_region ?_
  refine xl_pure rfl rfl rfl (pv_assign (v := .int _ _) rfl rfl) ?_
  refine xl_pure rfl rfl rfl (pv_assign (v := .int _ _) rfl rfl) ?_
  refine xl_nil ?_
  refine xthen_normal ?_
  refine xc_seq ?_
  refine xc_block ?_
  refine xc_seq ?_
  refine xc_region ?_
  refine xl_pure rfl rfl rfl (pv_move (v := .pointer _) rfl rfl) ?_
  refine xl_pure rfl rfl rfl (pv_eql_pn rfl rfl rfl) ?_
  refine xl_pure rfl rfl rfl (pv_move (v := .bool _) rfl rfl) ?_
  refine xl_pure rfl rfl rfl (pv_move (v := .int _ _) rfl rfl) ?_
  refine xl_heavy rfl rfl rfl (hv_call (g := 26) rfl rfl (gIsChar ch) rfl) ?_
  rintro v1_4 H1_4 ⟨hv1_4, rfl⟩
  rcases hv1_4 with ⟨hi1_4, rfl⟩ | ⟨hi1_4, rfl⟩
  · skip
    refine xl_pure rfl rfl rfl (pv_not rfl rfl) ?_
    refine xl_pure rfl rfl rfl (pv_pick_f (v := .bool _) rfl rfl rfl) ?_
    refine xl_pure rfl rfl rfl (pv_assign (v := .bool _) rfl rfl) ?_
    refine xl_nil ?_
    refine xthen_normal ?_
    refine xc_cond_f rfl ?_
    refine xc_seq ?_
    refine xc_region ?_
    refine xl_pure rfl rfl rfl (pv_move (v := .pointer _) rfl rfl) ?_
    refine xl_pure rfl rfl rfl (pv_nilCheck_p rfl rfl) ?_
    refine xl_pure rfl rfl rfl (pv_fieldAddr rfl rfl) ?_
    refine xl_light rfl rfl rfl (lv_load (v := .slice _ _ _) rfl rfl (ld_blk mp rfl)) ?_
    refine xl_pure rfl rfl rfl (pv_len_l rfl rfl) ?_
    refine xl_dec rfl rfl rfl (pv_geq rfl rfl rfl) (fun h3_5 => ?_) (fun h3_5 => ?_)
    · skip
      refine xl_pure rfl rfl rfl (pv_assign (v := .bool _) rfl rfl) ?_
      refine xl_nil ?_
      refine xthen_normal ?_
      refine xc_cond_t rfl ?_
      refine xc_seq ?_
      refine xc_region ?_
      refine xl_pure rfl rfl rfl (pv_assign (v := .int _ _) rfl rfl) ?_
      refine xl_pure rfl rfl rfl (pv_assign (v := .int _ _) rfl rfl) ?_
      refine xl_nil ?_
      refine xthen_normal ?_
      refine xc_ret ?_
      refine xblock_ret ?_
      refine xthen_ret ?_
      refine fin_ret (res2 (v := .int _ _) (x := .int _ _) rfl rfl rfl) ?_
      obtain ⟨e1, e2, e3⟩ := fou_full (X := X) hi1_4 (by omega); exact ⟨by rw [e1, e2], by rw [e3]; exact ⟨_, _, _, mp, hO, hM⟩, hX⟩
    · skip
      refine xl_pure rfl rfl rfl (pv_assign (v := .bool _) rfl rfl) ?_
      refine xl_nil ?_
      refine xthen_normal ?_
      refine xc_cond_f rfl ?_
      refine xc_skip ?_
      refine xblock_normal ?_
      refine xthen_normal ?_
      refine xc_seq ?_
      refine xc_region ?_
      refine xl_pure rfl rfl rfl (pv_move (v := .pointer _) rfl rfl) ?_
      refine xl_pure rfl rfl rfl (pv_move (v := .pointer _) rfl rfl) ?_
      refine xl_pure rfl rfl rfl (pv_nilCheck_p rfl rfl) ?_
      refine xl_pure rfl rfl rfl (pv_fieldAddr rfl rfl) ?_
      refine xl_light rfl rfl rfl (lv_load (v := .slice _ _ _) rfl rfl (ld_blk mp rfl)) ?_
      refine xl_pure rfl rfl rfl (pv_move (v := .int _ _) rfl rfl) ?_
      refine xl_pure rfl rfl rfl (pv_build_s (cs := [.int _ _, .int _ _]) rfl rfl rfl) ?_
      refine xl_heavy rfl rfl rfl (hv_buildSlice (cs := [.int _ _, .int _ _]) rfl rfl rfl rfl rfl) ?_
      rintro v5_7 H5_7 ⟨b5_7, rfl, hN5_7⟩
      have gb5_7 := hX.fresh hN5_7
      have nmp_5_7 := mp.apart hN5_7
      have mp := mp.ext hN5_7.ext
      have hO := hO.ext hN5_7.ext
      have hM := hM.ext hN5_7.ext
      have hX := hX.transE hN5_7.ext
      have m5_7 := hN5_7.blk
      refine xl_heavy rfl rfl rfl (hv_buildSlice (cs := [.slice _ _ _]) rfl rfl rfl rfl rfl) ?_
      rintro v5_8 H5_8 ⟨b5_8, rfl, hN5_8⟩
      have gb5_8 := hX.fresh hN5_8
      have nmp_5_8 := mp.apart hN5_8
      have pm5_8_hO := hO.apartN hN5_8
      have nm5_7_5_8 := m5_7.apart hN5_8
      have mp := mp.ext hN5_8.ext
      have hO := hO.ext hN5_8.ext
      have hM := hM.ext hN5_8.ext
      have m5_7 := m5_7.ext hN5_8.ext
      have hX := hX.transE hN5_8.ext
      have m5_8 := hN5_8.blk
      refine xl_heavy rfl rfl rfl (hv_append rfl rfl hO rfl m5_8.row rfl (by simp [Value.oneCell']) rfl (by decide) (by omega) (by omega) (Nat.le_trans hB hX.size)) ?_
      rintro v5_9 H5_9 ⟨hO5_9, hG5_9, -, hB5_9⟩
      have mp := mp.offT hO hG5_9 rfl
      have m5_7 := m5_7.offT hO hG5_9 rfl
      have hM := hM.growT hO hG5_9 rfl
      have hX := hX.grown hG5_9 (fun i hi => .inl (hGF i hi))
      obtain ⟨a5_9, c5_9, rfl⟩ := hO5_9.val
      refine xl_pure rfl rfl rfl (pv_nilCheck_p rfl rfl) ?_
      refine xl_pure rfl rfl rfl (pv_fieldAddr rfl rfl) ?_
      refine xl_store rfl rfl (hv_store (vs := [.slice _ _ _]) rfl rfl rfl (mp) rfl (Nat.le_of_ble_eq_true rfl) rfl) ?_
      rintro v5_12 H5_12 ⟨hU5_12, hZ5_12⟩
      have hM := hM.offT mp hU5_12.but (by first | rfl | assumption)
      have m5_7 := m5_7.off hU5_12.but (by first | exact nmp_5_7.symm | exact ⟨m5_7.ne mp rfl⟩ | exact ⟨m5_7.ne mp (by assumption)⟩ | exact ⟨Ne.symm (mp.ne m5_7 (by assumption))⟩)
      have hO5_9 := hO5_9.offU mp hU5_12.but (.inl rfl)
      have hX := hX.own hU5_12.but (.inl rfl)
      have mp := hU5_12.blk
      refine xl_nil ?_
      refine xthen_normal ?_
      refine xc_seq ?_
      refine xc_region ?_
      refine xl_pure rfl rfl rfl (pv_move (v := .pointer _) rfl rfl) ?_
      refine xl_pure rfl rfl rfl (pv_nilCheck_p rfl rfl) ?_
      refine xl_pure rfl rfl rfl (pv_fieldAddr rfl rfl) ?_
      refine xl_light rfl rfl rfl (lv_load (v := .slice _ _ _) rfl rfl (ld_blk mp rfl)) ?_
      refine xl_pure rfl rfl rfl (pv_len_l rfl rfl) ?_
      refine xl_pure rfl rfl rfl (pv_add rfl rfl rfl (fit_i64 (by omega))) ?_
      refine xl_pure rfl rfl rfl (pv_sub rfl rfl rfl (fit_i64 (by omega))) ?_
      refine xl_pure rfl rfl rfl (pv_assign (v := .int _ _) rfl rfl) ?_
      refine xl_pure rfl rfl rfl (pv_assign (v := .int _ _) rfl rfl) ?_
      refine xl_nil ?_
      refine xthen_normal ?_
      refine xc_ret ?_
      refine fin_ret (res2 (v := .int _ _) (x := .int _ _) rfl rfl rfl) ?_
      obtain ⟨e1, e2, e3⟩ := fou_ok (X := X) hi1_4 (by omega)
      have hrow : RowsT _ 56 2 (some ⟨b5_7, 0, none⟩) [[ch, 1]] := blk_rowsT (ex := []) m5_7 (fun r hr => by rw [List.mem_singleton] at hr; rw [hr]; rfl)
      exact ⟨by rw [e1, e2]; exact tupi (by omega), by rw [e3]; exact ⟨a5_9, c5_9, _, by rw [List.length_append]; exact mp, by rw [List.length_append]; exact hO5_9, hM.snoc (c := 1) hrow⟩, hX⟩
  · skip
    refine xl_pure rfl rfl rfl (pv_not rfl rfl) ?_
    refine xl_pure rfl rfl rfl (pv_pick_f (v := .bool _) rfl rfl rfl) ?_
    refine xl_pure rfl rfl rfl (pv_assign (v := .bool _) rfl rfl) ?_
    refine xl_nil ?_
    refine xthen_normal ?_
    refine xc_cond_t rfl ?_
    refine xc_seq ?_
    refine xc_region ?_
    refine xl_pure rfl rfl rfl (pv_assign (v := .int _ _) rfl rfl) ?_
    refine xl_pure rfl rfl rfl (pv_assign (v := .int _ _) rfl rfl) ?_
    refine xl_nil ?_
    refine xthen_normal ?_
    refine xc_ret ?_
    refine xblock_ret ?_
    refine xthen_ret ?_
    refine fin_ret (res2 (v := .int _ _) (x := .int _ _) rfl rfl rfl) ?_
    obtain ⟨e1, e2, e3⟩ := fou_arg (X := X) hi1_4; exact ⟨by rw [e1, e2], by rw [e3]; exact ⟨_, _, _, mp, hO, hM⟩, hX⟩

theorem gFoundn {O : Outer} {H : Heap} (ch : Int) :
    FnC Try.prog 21 #[.pointer none, .int .i64 ch] O H (fun v H' => v = .tuple #[.int .i64 0, .int .i64 1] ∧ Ext H H') := by
  refine fn_enter (A := [.pointer none, .int .i64 ch]) Try.func21 rfl rfl ?_
  have hX := Ext.refl H
  refine xc_seq ?_
  refine xc_region ?_
  refine xl_pure rfl rfl rfl (pv_assign (v := .int _ _) rfl rfl) ?_
  refine xl_pure rfl rfl rfl (pv_assign (v := .int _ _) rfl rfl) ?_
  refine xl_nil ?_
  refine xthen_normal ?_
  refine xc_seq ?_
  refine xc_block ?_
  refine xc_seq ?_
  refine xc_region ?_
  refine xl_pure rfl rfl rfl (pv_move (v := .pointer _) rfl rfl) ?_
  refine xl_pure rfl rfl rfl (pv_eql_nn rfl rfl rfl) ?_
  refine xl_pure rfl rfl rfl (pv_move (v := .bool _) rfl rfl) ?_
  refine xl_skip rfl rfl rfl ?_
  refine xl_skip rfl rfl rfl ?_
  refine xl_skip rfl rfl rfl ?_
  refine xl_pure rfl rfl rfl (pv_pick_t (v := .bool _) rfl rfl rfl) ?_
  refine xl_pure rfl rfl rfl (pv_assign (v := .bool _) rfl rfl) ?_
  refine xl_nil ?_
  refine xthen_normal ?_
  refine xc_cond_t rfl ?_
  refine xc_seq ?_
  refine xc_region ?_
  refine xl_pure rfl rfl rfl (pv_assign (v := .int _ _) rfl rfl) ?_
  refine xl_pure rfl rfl rfl (pv_assign (v := .int _ _) rfl rfl) ?_
  refine xl_nil ?_
  refine xthen_normal ?_
  refine xc_ret ?_
  refine xblock_ret ?_
  refine xthen_ret ?_
  refine fin_ret (res2 (v := .int _ _) (x := .int _ _) rfl rfl rfl) ?_
  exact ⟨rfl, hX⟩

theorem gLed2 {O : Outer} {H : Heap} {a : Option Addr} {n c : Nat} {l : List (List Int)} (hn : l.length = n) (hs : Rows H a 2 l) (hl : l.length < 1000000) (hok : ∀ r ∈ l, isR (mo r)) :
    FnC Try.prog 28 #[.slice a n c] O H (fun v H' => v = .bool (ledR l) ∧ Ext H H') := by
  subst hn; exact gLed hs hl hok

theorem gChange {O : Outer} {H : Heap} {bp c B gb : Nat} {hs ex : List Value} {X : List (List (List Int))} (mp : Blk H bp [.slice (some ⟨gb, 0, none⟩) X.length c] 47) (mg : Blk H gb (hs ++ ex) 52) (hgB : B ≤ gb) (hM : Mems H hs X) (k : Nat) (hk : k < X.length) {al : Option Addr} {n cl : Nat} {l : List (List Int)} (hn : l.length = n) (hQ : RowsT H 56 2 al l) (hml : MOk l) :
    FnC Try.prog 43 #[.pointer (some ⟨bp, 0, none⟩), .int .i64 (k : Nat), .slice al n cl] O H (fun v H' => ∃ hs', v = .int .i64 (setE l) ∧ Blk H' bp [.slice (some ⟨gb, 0, none⟩) X.length c] 47 ∧ Blk H' gb (hs' ++ ex) 52 ∧ Mems H' hs' (if setE l = 0 then X.set k l else X) ∧ KeepF (GF H bp B) H H') := by
  have mg0 := mg
  have hhl := hM.1
  have hl16 := mok_len hml
  refine fn_enter (A := [.pointer (some ⟨bp, 0, none⟩), .int .i64 (k : Nat), .slice al n cl]) Try.func43 rfl rfl ?_
  have hX := KeepF.refl (GF H bp B) H
  refine xc_seq ?_
  refine xc_region ?_
  refine xl_pure rfl rfl rfl (pv_assign (v := .int _ _) rfl rfl) ?_
  refine xl_nil ?_
  refine xthen_normal ?_
  refine xc_seq ?_
  refine xc_seq ?_
  refine xc_region ?_
  refine xl_pure rfl rfl rfl (pv_move (v := .slice _ _ _) rfl rfl) ?_
  refine xl_heavy rfl rfl rfl (hv_call (g := 28) rfl rfl (gLed2 hn hQ.rows (by omega) (fun r hr => (hml.ok r hr).2)) rfl) ?_
  rintro v1_1 H1_1 ⟨hv1_1, hE1_1⟩
  have mp := mp.ext hE1_1
  have mg := mg.ext hE1_1
  have hM := hM.ext hE1_1
  have hQ := hQ.ext hE1_1
  have hX := hX.transE hE1_1
  rcases hl1_1 : ledR l with _ | _
  · skip
    rw [hl1_1] at hv1_1
    subst hv1_1
    refine xl_pure rfl rfl rfl (pv_not rfl rfl) ?_
    refine xl_nil ?_
    refine xthen_normal ?_
    refine xc_cond_t rfl ?_
    refine xc_seq ?_
    refine xc_region ?_
    refine xl_pure rfl rfl rfl (pv_assign (v := .int _ _) rfl rfl) ?_
    refine xl_nil ?_
    refine xthen_normal ?_
    refine xc_ret ?_
    refine xthen_ret ?_
    refine fin_ret (res1 (v := .int _ _) rfl rfl) ?_
    have e : setE l = 9 := if_neg (by rw [hl1_1]; decide); exact ⟨hs, by rw [e], mp, mg, by rw [e]; exact hM, hX⟩
  · skip
    rw [hl1_1] at hv1_1
    subst hv1_1
    refine xl_pure rfl rfl rfl (pv_not rfl rfl) ?_
    refine xl_nil ?_
    refine xthen_normal ?_
    refine xc_cond_f rfl ?_
    refine xc_skip ?_
    refine xthen_normal ?_
    refine xc_seq ?_
    refine xc_region ?_
    refine xl_pure rfl rfl rfl (pv_move (v := .pointer _) rfl rfl) ?_
    refine xl_pure rfl rfl rfl (pv_nilCheck_p rfl rfl) ?_
    refine xl_pure rfl rfl rfl (pv_fieldAddr rfl rfl) ?_
    refine xl_light rfl rfl rfl (lv_load (v := .slice _ _ _) rfl rfl (ld_blk mp rfl)) ?_
    refine xl_pure rfl rfl rfl (pv_move (v := .int _ _) rfl rfl) ?_
    refine xl_pure rfl rfl rfl (pv_move (v := .slice _ _ _) rfl rfl) ?_
    refine xl_pure rfl rfl rfl (pv_indexAddr_l rfl rfl rfl (by omega)) ?_
    refine xl_store rfl rfl (hv_store (vs := [.slice al n cl]) rfl rfl rfl (mg) rfl (by rw [List.length_append, hhl]; show 0 + k * 1 + 1 ≤ _; omega) rfl) ?_
    rintro v3_7 H3_7 ⟨hU3_7, hZ3_7⟩
    have mp := mp.off hU3_7.but (by first | exact nmp_mg | exact ⟨mp.ne mg rfl⟩ | exact ⟨mp.ne mg (by assumption)⟩ | exact ⟨Ne.symm (mg.ne mp (by assumption))⟩)
    have hM := hM.offT mg hU3_7.but (by first | rfl | assumption)
    have hQ := hQ.offT mg hU3_7.but (by first | rfl | assumption)
    have hX := hX.own hU3_7.but (.inr ⟨hgB, _, mg0⟩)
    have mg := hU3_7.blk
    have mg := (show Blk _ gb (setRange (hs ++ ex) (0 + k * 1) [.slice al n cl]) 52 from mg)
    rw [set_hs (by omega)] at mg
    refine xl_nil ?_
    refine xthen_normal ?_
    refine xc_seq ?_
    refine xc_region ?_
    refine xl_pure rfl rfl rfl (pv_assign (v := .int _ _) rfl rfl) ?_
    refine xl_nil ?_
    refine xthen_normal ?_
    refine xc_ret ?_
    refine fin_ret (res1 (v := .int _ _) rfl rfl) ?_
    have e : setE l = 0 := if_pos hl1_1; have hM2 := hM.set (c := cl) hk hQ; rw [hn] at hM2; exact ⟨_, by rw [e], mp, mg, by rw [e]; exact hM2, hX⟩

theorem fnC_int {P : Program} {f : FuncId} {a b : Value} {x y : Int} {O : Outer} {H : Heap} {R : Value → Heap → Prop} (h : x = y) (k : FnC P f #[a, .int .i64 x, b] O H R) : FnC P f #[a, .int .i64 y, b] O H R := h ▸ k

theorem gEnrol {O : Outer} {H : Heap} {bp c B : Nat} {a : Option Addr} {hs : List Value} {X : List (List (List Int))} (mp : Blk H bp [.slice a X.length c] 47) (hO : Own H B 52 1 (.slice a X.length c) X.length hs) (hM : Mems H hs X) (hG : GOk X) (id ch r : Int) :
    FnC Try.prog 22 #[.pointer (some ⟨bp, 0, none⟩), .int .i64 id, .int .i64 ch, .int .i64 r] O H (fun v H' => v = .int .i64 (enrE X id ch r) ∧ GAt H' bp B (enrX X id ch r) ∧ KeepF (GF H bp B) H H') := by
  refine fn_enter (A := [.pointer (some ⟨bp, 0, none⟩), .int .i64 id, .int .i64 ch, .int .i64 r]) Try.func22 rfl rfl ?_
  have hX := Ext.refl H
  refine xc_seq ?_
  refine xc_region ?_
  refine xl_pure rfl rfl rfl (pv_assign (v := .int _ _) rfl rfl) ?_
  refine xl_nil ?_
  refine xthen_normal ?_
  refine xc_seq ?_
  refine xc_region ?_
  refine xl_pure rfl rfl rfl (pv_move (v := .pointer _) rfl rfl) ?_
  refine xl_pure rfl rfl rfl (pv_move (v := .int _ _) rfl rfl) ?_
  refine xl_heavy rfl rfl rfl (hv_call (g := 40) rfl rfl (gPlace (mp.ext hX) (by have := hG.len; omega) id) rfl) ?_
  rintro v1_2 H1_2 ⟨hv1_2, rfl⟩
  rcases hv1_2 with ⟨hi1_2, rfl⟩ | ⟨hi1_2, rfl⟩
  · skip
    refine xl_pure rfl rfl rfl (pv_move (v := .tuple _) rfl rfl) ?_
    refine xl_pure rfl rfl rfl (pv_extract (v := .int _ _) rfl rfl rfl) ?_
    refine xl_pure rfl rfl rfl (pv_extract (v := .int _ _) rfl rfl rfl) ?_
    refine xl_pure rfl rfl rfl (pv_assign (v := .int _ _) rfl rfl) ?_
    refine xl_pure rfl rfl rfl (pv_assign (v := .int _ _) rfl rfl) ?_
    refine xl_nil ?_
    refine xthen_normal ?_
    refine xc_seq ?_
    refine xc_block ?_
    refine xc_seq ?_
    refine xc_region ?_
    refine xl_pure rfl rfl rfl (pv_move (v := .int _ _) rfl rfl) ?_
    refine xl_ndec rfl rfl rfl (pv_neq rfl rfl rfl) (fun h2_1 => ?_) (fun h2_1 => ?_)
    · skip
      refine xl_pure rfl rfl rfl (pv_assign (v := .bool _) rfl rfl) ?_
      refine xl_nil ?_
      refine xthen_normal ?_
      refine xc_cond_f rfl ?_
      refine xc_seq ?_
      refine xc_region ?_
      refine xl_pure rfl rfl rfl (pv_move (v := .int _ _) rfl rfl) ?_
      refine xl_heavy rfl rfl rfl (hv_call (g := 26) rfl rfl (gIsChar ch) rfl) ?_
      rintro v4_1 H4_1 ⟨hv4_1, rfl⟩
      rcases hv4_1 with ⟨hi4_1, rfl⟩ | ⟨hi4_1, rfl⟩
      · skip
        refine xl_pure rfl rfl rfl (pv_not rfl rfl) ?_
        refine xl_pure rfl rfl rfl (pv_move (v := .bool _) rfl rfl) ?_
        refine xl_pure rfl rfl rfl (pv_move (v := .int _ _) rfl rfl) ?_
        refine xl_heavy rfl rfl rfl (hv_call (g := 27) rfl rfl (gCheck0 r) rfl) ?_
        rintro v4_5 H4_5 ⟨hv4_5, rfl⟩
        rcases hv4_5 with ⟨hi4_5, rfl⟩ | ⟨hi4_5, rfl⟩
        · skip
          refine xl_ndec rfl rfl rfl (pv_neq rfl rfl rfl) (fun h4_6 => ?_) (fun h4_6 => ?_)
          · skip
            refine xl_pure rfl rfl rfl (pv_pick_f (v := .bool _) rfl rfl rfl) ?_
            refine xl_pure rfl rfl rfl (pv_assign (v := .bool _) rfl rfl) ?_
            refine xl_nil ?_
            refine xthen_normal ?_
            refine xc_cond_f rfl ?_
            refine xc_skip ?_
            refine xblock_normal ?_
            refine xthen_normal ?_
            refine xc_seq ?_
            obtain ⟨hix, hixv⟩ := inG_ix hi1_2
            obtain ⟨hmk, hlk⟩ := hG.at hix
            obtain ⟨gb, ex, hae, mg, hBg, hnc, hcm, hexl⟩ := (own_blk2 hO).resolve_left (by omega)
            obtain ⟨ak, ck, hk1, hk2⟩ := hM.2 (ix id) (by omega)
            have hl16 := mok_len hmk
            refine xc_region ?_
            refine xl_pure rfl rfl rfl (pv_move (v := .pointer _) rfl rfl) ?_
            refine xl_pure rfl rfl rfl (pv_nilCheck_p rfl rfl) ?_
            refine xl_pure rfl rfl rfl (pv_fieldAddr rfl rfl) ?_
            refine xl_light rfl rfl rfl (lv_load (v := .slice _ _ _) rfl rfl (by exact ld_blk (mp.ext hX) rfl)) ?_
            refine xl_pure rfl rfl rfl (pv_move (v := .int _ _) rfl rfl) ?_
            refine xl_pure rfl rfl rfl (pv_indexAddr_l rfl (sl_eq hae) rfl (by omega)) ?_
            refine xl_light rfl rfl rfl (lv_load (v := .slice _ _ _) rfl rfl (by exact ld_hs (mg.ext hX) hk1)) ?_
            refine xl_heavy rfl rfl rfl (hv_call (g := 29) rfl rfl (gCloneM (hk2.rows.ext hX) (by omega)) rfl) ?_
            rintro v6_7 H6_7 ⟨a6_7, c6_7, rfl, hQ6_7, hE6_7⟩
            have hX := hX.trans hE6_7
            refine xl_pure rfl rfl rfl (pv_assign (v := .slice _ _ _) rfl rfl) ?_
            refine xl_nil ?_
            refine xthen_normal ?_
            refine xc_seq ?_
            refine xc_region ?_
            refine xl_pure rfl rfl rfl (pv_move (v := .int _ _) rfl rfl) ?_
            refine xl_pure rfl rfl rfl (pv_move (v := .int _ _) rfl rfl) ?_
            refine xl_pure rfl rfl rfl (pv_build_s (cs := [.int _ _, .int _ _]) rfl rfl rfl) ?_
            refine xl_heavy rfl rfl rfl (hv_alloc rfl rfl) ?_
            rintro v7_3 H7_3 ⟨b7_3, rfl, hN7_3⟩
            have gb7_3 := hX.fresh hN7_3
            have pm7_3_hQ6_7 := hQ6_7.apartN hN7_3
            have hQ6_7 := hQ6_7.ext hN7_3.ext
            have hX := hX.trans hN7_3.ext
            have m7_3 := hN7_3.blk
            refine xl_store rfl rfl (hv_storeA (vs := [.int _ _, .int _ _]) rfl rfl rfl (m7_3) rfl (by rfl) rfl) ?_
            rintro v7_4 H7_4 ⟨hU7_4, hZ7_4⟩
            have hQ6_7 := hQ6_7.offU m7_3 hU7_4.but (.inr pm7_3_hQ6_7)
            have hX := hX.upd hU7_4.but gb7_3
            have m7_3 := hU7_4.blk
            refine xl_nil ?_
            refine xthen_normal ?_
            refine xc_seq ?_
            refine xc_region ?_
            refine xl_pure rfl rfl rfl (pv_move (v := .slice _ _ _) rfl rfl) ?_
            refine xl_pure rfl rfl rfl (pv_move (v := .int _ _) rfl rfl) ?_
            refine xl_heavy rfl rfl rfl (hv_call (g := 41) rfl rfl (gFind (own_rows hmk.wide hQ6_7) hmk ch hi4_1) rfl) ?_
            rintro v8_2 H8_2 ⟨hv8_2, hE8_2⟩
            have hQ6_7 := hQ6_7.ext hE8_2
            have m7_3 := m7_3.ext hE8_2
            have hX := hX.trans hE8_2
            rcases hh8_2 : hasM (gM X (ix id)) ch with _ | _
            · skip
              rw [hh8_2] at hv8_2
              subst hv8_2
              refine xl_pure rfl rfl rfl (pv_move (v := .tuple _) rfl rfl) ?_
              refine xl_pure rfl rfl rfl (pv_extract (v := .int _ _) rfl rfl rfl) ?_
              refine xl_pure rfl rfl rfl (pv_extract (v := .bool _) rfl rfl rfl) ?_
              refine xl_pure rfl rfl rfl (pv_assign (v := .int _ _) rfl rfl) ?_
              refine xl_pure rfl rfl rfl (pv_assign (v := .bool _) rfl rfl) ?_
              refine xl_nil ?_
              refine xthen_normal ?_
              refine xc_seq ?_
              refine xc_seq ?_
              refine xc_region ?_
              refine xl_pure rfl rfl rfl (pv_move (v := .bool _) rfl rfl) ?_
              refine xl_nil ?_
              refine xthen_normal ?_
              refine xc_cond_f rfl ?_
              refine xc_region ?_
              refine xl_pure rfl rfl rfl (pv_move (v := .slice _ _ _) rfl rfl) ?_
              refine xl_pure rfl rfl rfl (pv_move (v := .int _ _) rfl rfl) ?_
              refine xl_light rfl rfl rfl (lv_load (v := .agg _) rfl rfl (ld_blk_a m7_3 rfl rfl)) ?_
              refine xl_heavy rfl rfl rfl (hv_buildSlice (cs := [.int _ _, .int _ _]) rfl rfl rfl rfl rfl) ?_
              rintro v11_3 H11_3 ⟨b11_3, rfl, hN11_3⟩
              have gb11_3 := hX.fresh hN11_3
              have pm11_3_hQ6_7 := hQ6_7.apartN hN11_3
              have nm7_3_11_3 := m7_3.apart hN11_3
              have hQ6_7 := hQ6_7.ext hN11_3.ext
              have m7_3 := m7_3.ext hN11_3.ext
              have hX := hX.trans hN11_3.ext
              have m11_3 := hN11_3.blk
              refine xl_heavy rfl rfl rfl (hv_call (g := 42) rfl rfl (gInsert hX hQ6_7 hmk.wide (posM (gM X (ix id)) ch) (pos_le _ _) (by omega) m11_3 pm11_3_hQ6_7) rfl) ?_
              rintro v11_4 H11_4 ⟨a11_4, c11_4, rfl, hQ11_4, hN11_4⟩
              have hX := hN11_4
              refine xl_pure rfl rfl rfl (pv_assign (v := .slice _ _ _) rfl rfl) ?_
              refine xl_nil ?_
              refine xthen_normal ?_
              refine xc_seq ?_
              have hpx := hixv
              refine xc_region ?_
              refine xl_pure rfl rfl rfl (pv_move (v := .pointer _) rfl rfl) ?_
              refine xl_pure rfl rfl rfl (pv_move (v := .int _ _) rfl rfl) ?_
              refine xl_pure rfl rfl rfl (pv_move (v := .slice _ _ _) rfl rfl) ?_
              refine xl_heavy rfl rfl rfl (hv_call (g := 43) rfl rfl (fnC_int hixv (gChange (c := c) (B := B) (ex := ex) (X := X) (hae ▸ mp.ext hX) (mg.ext hX) hBg (hM.ext hX) (ix id) hix (l := putA (gM X (ix id)) ch r) (len_putA_no hh8_2) (by rw [putA_in hh8_2]; exact hQ11_4) (mok_put hmk hi4_1 hi4_5))) rfl) ?_
              rintro v12_3 H12_3 ⟨hs12_3, rfl, mp12_3, mg12_3, hM12_3, hK12_3⟩
              have hK := ext_keepGF hX hK12_3
              refine xl_pure rfl rfl rfl (pv_assign (v := .int _ _) rfl rfl) ?_
              refine xl_nil ?_
              refine xthen_normal ?_
              refine xc_ret ?_
              refine fin_ret (res1 (v := .int _ _) rfl rfl) ?_
              have e0 := enr_set (c := ch) (r := r) hi1_2 ⟨hi4_1, hi4_5⟩
              have eln : (enrX X id ch r).length = X.length := len_enr
              refine ⟨by rw [e0.1]; rfl, ⟨some ⟨gb, 0, none⟩, c, hs12_3, by rw [eln]; exact mp12_3, ?_, by rw [e0.2]; exact hM12_3⟩, hK⟩
              have hl0 := hM.1
              have hl1 : hs12_3.length = X.length := by have h := hM12_3.1; rw [h]; split; exact List.length_set; rfl
              rw [eln]
              exact own_mk mg12_3 hBg (by omega) (by rw [List.length_append, hl1, ← hl0, ← List.length_append]; exact hexl) hnc hcm
            · skip
              rw [hh8_2] at hv8_2
              subst hv8_2
              obtain ⟨hp1, hp2⟩ := at_pos hmk.srt hh8_2
              obtain ⟨gl, exl, hal, mL, hgl, hnl, hcl, hexl2⟩ := (own_blk2 hQ6_7).resolve_left (by omega)
              have ggl : Fresh H gl := ⟨hgl⟩
              have nm7_3_mL : Apart b7_3 gl := ⟨fun e => pm7_3_hQ6_7.ne (by rw [hal, e]; rfl)⟩
              refine xl_pure rfl rfl rfl (pv_move (v := .tuple _) rfl rfl) ?_
              refine xl_pure rfl rfl rfl (pv_extract (v := .int _ _) rfl rfl rfl) ?_
              refine xl_pure rfl rfl rfl (pv_extract (v := .bool _) rfl rfl rfl) ?_
              refine xl_pure rfl rfl rfl (pv_assign (v := .int _ _) rfl rfl) ?_
              refine xl_pure rfl rfl rfl (pv_assign (v := .bool _) rfl rfl) ?_
              refine xl_nil ?_
              refine xthen_normal ?_
              refine xc_seq ?_
              refine xc_seq ?_
              refine xc_region ?_
              refine xl_pure rfl rfl rfl (pv_move (v := .bool _) rfl rfl) ?_
              refine xl_nil ?_
              refine xthen_normal ?_
              refine xc_cond_t rfl ?_
              refine xc_region ?_
              refine xl_pure rfl rfl rfl (pv_move (v := .slice _ _ _) rfl rfl) ?_
              refine xl_pure rfl rfl rfl (pv_move (v := .int _ _) rfl rfl) ?_
              refine xl_light rfl rfl rfl (lv_load (v := .agg _) rfl rfl (ld_blk_a m7_3 rfl rfl)) ?_
              refine xl_pure rfl rfl rfl (pv_indexAddr_l rfl (sl_eq hal) rfl (by omega)) ?_
              refine xl_store rfl rfl (hv_store (vs := [.int .i64 ch, .int .i64 r]) rfl rfl rfl (mL) rfl (by rw [hexl2]; show 0 + posM (gM X (ix id)) ch * 2 + 2 ≤ _; omega) rfl) ?_
              rintro v10_4 H10_4 ⟨hU10_4, hZ10_4⟩
              have m7_3 := m7_3.off hU10_4.but (by first | exact nm7_3_mL | exact ⟨m7_3.ne mL rfl⟩ | exact ⟨m7_3.ne mL (by assumption)⟩ | exact ⟨Ne.symm (mL.ne m7_3 (by assumption))⟩)
              have hX := hX.upd hU10_4.but ggl
              have mL := hU10_4.blk
              have mL := (show Blk _ gl (setRange (fr (gM X (ix id)) ++ exl) (0 + posM (gM X (ix id)) ch * 2) [.int .i64 ch, .int .i64 r]) 56 from mL)
              rw [put_cells hmk hh8_2] at mL
              refine xl_nil ?_
              refine xthen_normal ?_
              refine xc_seq ?_
              have hpx := hixv
              refine xc_region ?_
              refine xl_pure rfl rfl rfl (pv_move (v := .pointer _) rfl rfl) ?_
              refine xl_pure rfl rfl rfl (pv_move (v := .int _ _) rfl rfl) ?_
              refine xl_pure rfl rfl rfl (pv_move (v := .slice _ _ _) rfl rfl) ?_
              refine xl_heavy rfl rfl rfl (hv_call (g := 43) rfl rfl (fnC_int hixv (gChange (c := c) (B := B) (ex := ex) (X := X) (hae ▸ mp.ext hX) (mg.ext hX) hBg (hM.ext hX) (ix id) hix (l := putA (gM X (ix id)) ch r) (len_putA_has hmk hh8_2) (hal ▸ blk_rowsT mL (mok_put hmk hi4_1 hi4_5).wide) (mok_put hmk hi4_1 hi4_5))) rfl) ?_
              rintro v12_3 H12_3 ⟨hs12_3, rfl, mp12_3, mg12_3, hM12_3, hK12_3⟩
              have hK := ext_keepGF hX hK12_3
              refine xl_pure rfl rfl rfl (pv_assign (v := .int _ _) rfl rfl) ?_
              refine xl_nil ?_
              refine xthen_normal ?_
              refine xc_ret ?_
              refine fin_ret (res1 (v := .int _ _) rfl rfl) ?_
              have e0 := enr_set (c := ch) (r := r) hi1_2 ⟨hi4_1, hi4_5⟩
              have eln : (enrX X id ch r).length = X.length := len_enr
              refine ⟨by rw [e0.1]; rfl, ⟨some ⟨gb, 0, none⟩, c, hs12_3, by rw [eln]; exact mp12_3, ?_, by rw [e0.2]; exact hM12_3⟩, hK⟩
              have hl0 := hM.1
              have hl1 : hs12_3.length = X.length := by have h := hM12_3.1; rw [h]; split; exact List.length_set; rfl
              rw [eln]
              exact own_mk mg12_3 hBg (by omega) (by rw [List.length_append, hl1, ← hl0, ← List.length_append]; exact hexl) hnc hcm
          · exact absurd (by decide) h4_6
        · skip
          refine xl_ndec rfl rfl rfl (pv_neq rfl rfl rfl) (fun h4_6 => ?_) (fun h4_6 => ?_)
          · exact absurd h4_6 (by decide)
          · skip
            refine xl_pure rfl rfl rfl (pv_pick_f (v := .bool _) rfl rfl rfl) ?_
            refine xl_pure rfl rfl rfl (pv_assign (v := .bool _) rfl rfl) ?_
            refine xl_nil ?_
            refine xthen_normal ?_
            refine xc_cond_t rfl ?_
            refine xc_seq ?_
            refine xc_region ?_
            refine xl_pure rfl rfl rfl (pv_assign (v := .int _ _) rfl rfl) ?_
            refine xl_nil ?_
            refine xthen_normal ?_
            refine xc_ret ?_
            refine xblock_ret ?_
            refine xthen_ret ?_
            refine fin_ret (res1 (v := .int _ _) rfl rfl) ?_
            obtain ⟨e1, e2⟩ := enr_arg (c := ch) (r := r) hi1_2 (fun h => by first | exact hi4_1 h.1 | exact hi4_5 h.2)
            exact ⟨by rw [e1], by rw [e2]; exact GAt.ext ⟨_, _, _, mp, hO, hM⟩ hX, ext_keepGF hX (KeepF.refl _ _)⟩
      · skip
        refine xl_pure rfl rfl rfl (pv_not rfl rfl) ?_
        refine xl_pure rfl rfl rfl (pv_move (v := .bool _) rfl rfl) ?_
        refine xl_skip rfl rfl rfl ?_
        refine xl_skip rfl rfl rfl ?_
        refine xl_skip rfl rfl rfl ?_
        refine xl_pure rfl rfl rfl (pv_pick_t (v := .bool _) rfl rfl rfl) ?_
        refine xl_pure rfl rfl rfl (pv_assign (v := .bool _) rfl rfl) ?_
        refine xl_nil ?_
        refine xthen_normal ?_
        refine xc_cond_t rfl ?_
        refine xc_seq ?_
        refine xc_region ?_
        refine xl_pure rfl rfl rfl (pv_assign (v := .int _ _) rfl rfl) ?_
        refine xl_nil ?_
        refine xthen_normal ?_
        refine xc_ret ?_
        refine xblock_ret ?_
        refine xthen_ret ?_
        refine fin_ret (res1 (v := .int _ _) rfl rfl) ?_
        obtain ⟨e1, e2⟩ := enr_arg (c := ch) (r := r) hi1_2 (fun h => by first | exact hi4_1 h.1 | exact hi4_5 h.2)
        exact ⟨by rw [e1], by rw [e2]; exact GAt.ext ⟨_, _, _, mp, hO, hM⟩ hX, ext_keepGF hX (KeepF.refl _ _)⟩
    · exact absurd (by decide) h2_1
  · skip
    refine xl_pure rfl rfl rfl (pv_move (v := .tuple _) rfl rfl) ?_
    refine xl_pure rfl rfl rfl (pv_extract (v := .int _ _) rfl rfl rfl) ?_
    refine xl_pure rfl rfl rfl (pv_extract (v := .int _ _) rfl rfl rfl) ?_
    refine xl_pure rfl rfl rfl (pv_assign (v := .int _ _) rfl rfl) ?_
    refine xl_pure rfl rfl rfl (pv_assign (v := .int _ _) rfl rfl) ?_
    refine xl_nil ?_
    refine xthen_normal ?_
    refine xc_seq ?_
    refine xc_block ?_
    refine xc_seq ?_
    refine xc_region ?_
    refine xl_pure rfl rfl rfl (pv_move (v := .int _ _) rfl rfl) ?_
    refine xl_ndec rfl rfl rfl (pv_neq rfl rfl rfl) (fun h2_1 => ?_) (fun h2_1 => ?_)
    · exact absurd h2_1 (by decide)
    · skip
      refine xl_pure rfl rfl rfl (pv_assign (v := .bool _) rfl rfl) ?_
      refine xl_nil ?_
      refine xthen_normal ?_
      refine xc_cond_t rfl ?_
      refine xc_seq ?_
      refine xc_region ?_
      refine xl_pure rfl rfl rfl (pv_move (v := .int _ _) rfl rfl) ?_
      refine xl_pure rfl rfl rfl (pv_assign (v := .int _ _) rfl rfl) ?_
      refine xl_nil ?_
      refine xthen_normal ?_
      refine xc_ret ?_
      refine xblock_ret ?_
      refine xthen_ret ?_
      refine fin_ret (res1 (v := .int _ _) rfl rfl) ?_
      obtain ⟨e1, e2⟩ := enr_no (c := ch) (r := r) hi1_2
      exact ⟨by rw [e1], by rw [e2]; exact GAt.ext ⟨_, _, _, mp, hO, hM⟩ hX, ext_keepGF hX (KeepF.refl _ _)⟩

theorem gEnroln {O : Outer} {H : Heap} (id ch r : Int) :
    FnC Try.prog 22 #[.pointer none, .int .i64 id, .int .i64 ch, .int .i64 r] O H (fun v H' => v = .int .i64 1 ∧ Ext H H') := by
  refine fn_enter (A := [.pointer none, .int .i64 id, .int .i64 ch, .int .i64 r]) Try.func22 rfl rfl ?_
  have hX := Ext.refl H
  refine xc_seq ?_
  refine xc_region ?_
  refine xl_pure rfl rfl rfl (pv_assign (v := .int _ _) rfl rfl) ?_
  refine xl_nil ?_
  refine xthen_normal ?_
  refine xc_seq ?_
  refine xc_region ?_
  refine xl_pure rfl rfl rfl (pv_move (v := .pointer _) rfl rfl) ?_
  refine xl_pure rfl rfl rfl (pv_move (v := .int _ _) rfl rfl) ?_
  refine xl_heavy rfl rfl rfl (hv_call (g := 40) rfl rfl (gPlacen id) rfl) ?_
  rintro v1_2 H1_2 ⟨rfl, rfl⟩
  refine xl_pure rfl rfl rfl (pv_move (v := .tuple _) rfl rfl) ?_
  refine xl_pure rfl rfl rfl (pv_extract (v := .int _ _) rfl rfl rfl) ?_
  refine xl_pure rfl rfl rfl (pv_extract (v := .int _ _) rfl rfl rfl) ?_
  refine xl_pure rfl rfl rfl (pv_assign (v := .int _ _) rfl rfl) ?_
  refine xl_pure rfl rfl rfl (pv_assign (v := .int _ _) rfl rfl) ?_
  refine xl_nil ?_
  refine xthen_normal ?_
  refine xc_seq ?_
  refine xc_block ?_
  refine xc_seq ?_
  refine xc_region ?_
  refine xl_pure rfl rfl rfl (pv_move (v := .int _ _) rfl rfl) ?_
  refine xl_ndec rfl rfl rfl (pv_neq rfl rfl rfl) (fun h2_1 => ?_) (fun h2_1 => ?_)
  · exact absurd h2_1 (by decide)
  · skip
    refine xl_pure rfl rfl rfl (pv_assign (v := .bool _) rfl rfl) ?_
    refine xl_nil ?_
    refine xthen_normal ?_
    refine xc_cond_t rfl ?_
    refine xc_seq ?_
    refine xc_region ?_
    refine xl_pure rfl rfl rfl (pv_move (v := .int _ _) rfl rfl) ?_
    refine xl_pure rfl rfl rfl (pv_assign (v := .int _ _) rfl rfl) ?_
    refine xl_nil ?_
    refine xthen_normal ?_
    refine xc_ret ?_
    refine xblock_ret ?_
    refine xthen_ret ?_
    refine fin_ret (res1 (v := .int _ _) rfl rfl) ?_
    exact ⟨rfl, hX⟩

theorem gPlaceIn {O : Outer} {H : Heap} {bp c : Nat} {a : Option Addr} {X : List (List (List Int))} (mp : Blk H bp [.slice a X.length c] 47) (hX4 : X.length ≤ 4) {id : Int} (hi : inG X id) :
    FnC Try.prog 40 #[.pointer (some ⟨bp, 0, none⟩), .int .i64 id] O H (fun v H' => v = .tuple #[.int .i64 (id - 101), .int .i64 0] ∧ H = H') :=
  (gPlace mp hX4 id).mono fun v H' h => by
    rcases h with ⟨⟨_, h1⟩ | ⟨h0, _⟩, h2⟩
    · exact ⟨h1, h2⟩
    · exact absurd hi h0
theorem gFindIn {O : Outer} {H : Heap} {a : Option Addr} {c : Nat} {l : List (List Int)} (hs : Rows H a 2 l) (hm : MOk l) (ch : Int) (hch : isC ch) (hh : hasM l ch = true) :
    FnC Try.prog 41 #[.slice a l.length c, .int .i64 ch] O H (fun v H' => v = .tuple #[.int .i64 (posM l ch : Nat), .bool true] ∧ Ext H H') :=
  (gFind hs hm ch hch).mono fun v H' h => by rw [hh] at h; exact h

theorem gExpel {O : Outer} {H : Heap} {bp c B : Nat} {a : Option Addr} {hs : List Value} {X : List (List (List Int))} (mp : Blk H bp [.slice a X.length c] 47) (hO : Own H B 52 1 (.slice a X.length c) X.length hs) (hM : Mems H hs X) (hG : GOk X) (id ch : Int) :
    FnC Try.prog 23 #[.pointer (some ⟨bp, 0, none⟩), .int .i64 id, .int .i64 ch] O H (fun v H' => v = .int .i64 (expE X id ch) ∧ GAt H' bp B (expX X id ch) ∧ KeepF (GF H bp B) H H') := by
  refine fn_enter (A := [.pointer (some ⟨bp, 0, none⟩), .int .i64 id, .int .i64 ch]) Try.func23 rfl rfl ?_
  have hX := Ext.refl H
  refine xc_seq ?_
  refine xc_region ?_
  refine xl_pure rfl rfl rfl (pv_assign (v := .int _ _) rfl rfl) ?_
  refine xl_nil ?_
  refine xthen_normal ?_
  refine xc_seq ?_
  refine xc_seq ?_
  refine xc_region ?_
  refine xl_pure rfl rfl rfl (pv_move (v := .pointer _) rfl rfl) ?_
  refine xl_pure rfl rfl rfl (pv_move (v := .int _ _) rfl rfl) ?_
  refine xl_pure rfl rfl rfl (pv_move (v := .int _ _) rfl rfl) ?_
  refine xl_heavy rfl rfl rfl (hv_call (g := 34) rfl rfl (gRoles (mp.ext hX) (hO.ext hX) (hM.ext hX) hG id ch) rfl) ?_
  rintro v1_3 H1_3 ⟨rfl, hE1_3⟩
  have hX := hX.trans hE1_3
  refine xl_pure rfl rfl rfl (pv_move (v := .tuple _) rfl rfl) ?_
  refine xl_pure rfl rfl rfl (pv_extract (v := .int _ _) rfl rfl rfl) ?_
  refine xl_pure rfl rfl rfl (pv_extract (v := .int _ _) rfl rfl rfl) ?_
  refine xl_pure rfl rfl rfl (pv_assign (v := .int _ _) rfl rfl) ?_
  refine xl_pure rfl rfl rfl (pv_assign (v := .int _ _) rfl rfl) ?_
  refine xl_nil ?_
  refine xthen_normal ?_
  refine xc_seq ?_
  refine xc_region ?_
  refine xl_pure rfl rfl rfl (pv_move (v := .int _ _) rfl rfl) ?_
  refine xl_ndec rfl rfl rfl (pv_neq rfl rfl rfl) (fun h2_1 => ?_) (fun h2_1 => ?_)
  · skip
    refine xl_nil ?_
    refine xthen_normal ?_
    refine xc_cond_f rfl ?_
    refine xc_skip ?_
    refine xthen_normal ?_
    refine xc_seq ?_
    obtain ⟨hin, hhas⟩ := rol_inv h2_1
    obtain ⟨hix, hixv⟩ := inG_ix hin
    obtain ⟨hmk, hlk⟩ := hG.at hix
    obtain ⟨gb, ex, hae, mg, hBg, hnc, hcm, hexl⟩ := (own_blk2 hO).resolve_left (by omega)
    obtain ⟨ak, ck, hk1, hk2⟩ := hM.2 (ix id) (by omega)
    have hl16 := mok_len hmk
    refine xc_region ?_
    refine xl_pure rfl rfl rfl (pv_move (v := .pointer _) rfl rfl) ?_
    refine xl_pure rfl rfl rfl (pv_move (v := .int _ _) rfl rfl) ?_
    refine xl_heavy rfl rfl rfl (hv_call (g := 40) rfl rfl (gPlaceIn (mp.ext hX) (by have := hG.len; omega) hin) rfl) ?_
    rintro v4_2 H4_2 ⟨rfl, rfl⟩
    refine xl_pure rfl rfl rfl (pv_move (v := .tuple _) rfl rfl) ?_
    refine xl_pure rfl rfl rfl (pv_extract (v := .int _ _) rfl rfl rfl) ?_
    refine xl_pure rfl rfl rfl (pv_extract (v := .int _ _) rfl rfl rfl) ?_
    refine xl_pure rfl rfl rfl (pv_assign (v := .int _ _) rfl rfl) ?_
    refine xl_pure rfl rfl rfl (pv_assign (v := .int _ _) rfl rfl) ?_
    refine xl_nil ?_
    refine xthen_normal ?_
    refine xc_seq ?_
    have hX0s := hX.size
    refine xc_region ?_
    refine xl_pure rfl rfl rfl (pv_move (v := .pointer _) rfl rfl) ?_
    refine xl_pure rfl rfl rfl (pv_nilCheck_p rfl rfl) ?_
    refine xl_pure rfl rfl rfl (pv_fieldAddr rfl rfl) ?_
    refine xl_light rfl rfl rfl (lv_load (v := .slice _ _ _) rfl rfl (by exact ld_blk (mp.ext hX) rfl)) ?_
    refine xl_pure rfl rfl rfl (pv_move (v := .int _ _) rfl rfl) ?_
    refine xl_pure rfl rfl rfl (pv_indexAddr_l rfl (sl_eq hae) rfl (by omega)) ?_
    refine xl_light rfl rfl rfl (lv_load (v := .slice _ _ _) rfl rfl (by exact ld_hs (mg.ext hX) hk1)) ?_
    refine xl_heavy rfl rfl rfl (hv_call (g := 29) rfl rfl (gCloneM (hk2.rows.ext hX) (by omega)) rfl) ?_
    rintro v5_7 H5_7 ⟨a5_7, c5_7, rfl, hQ5_7, hE5_7⟩
    have hX := hX.trans hE5_7
    refine xl_pure rfl rfl rfl (pv_assign (v := .slice _ _ _) rfl rfl) ?_
    refine xl_nil ?_
    refine xthen_normal ?_
    refine xc_seq ?_
    refine xc_region ?_
    refine xl_pure rfl rfl rfl (pv_move (v := .slice _ _ _) rfl rfl) ?_
    refine xl_pure rfl rfl rfl (pv_move (v := .int _ _) rfl rfl) ?_
    refine xl_heavy rfl rfl rfl (hv_call (g := 41) rfl rfl (gFindIn (own_rows hmk.wide hQ5_7) hmk ch (has_isC hmk hhas) hhas) rfl) ?_
    rintro v6_2 H6_2 ⟨rfl, hE6_2⟩
    have hQ5_7 := hQ5_7.ext hE6_2
    have hX := hX.trans hE6_2
    refine xl_pure rfl rfl rfl (pv_move (v := .tuple _) rfl rfl) ?_
    refine xl_pure rfl rfl rfl (pv_extract (v := .int _ _) rfl rfl rfl) ?_
    refine xl_pure rfl rfl rfl (pv_extract (v := .bool _) rfl rfl rfl) ?_
    refine xl_pure rfl rfl rfl (pv_assign (v := .int _ _) rfl rfl) ?_
    refine xl_pure rfl rfl rfl (pv_assign (v := .bool _) rfl rfl) ?_
    refine xl_nil ?_
    refine xthen_normal ?_
    refine xc_seq ?_
    obtain ⟨hp1, hp2⟩ := at_pos hmk.srt hhas
    obtain ⟨gl, exl, rfl, mL, hgl, hnl, hcl, hexl2⟩ := (own_blk2 hQ5_7).resolve_left (by omega)
    refine xc_region ?_
    refine xl_pure rfl rfl rfl (pv_move (v := .pointer _) rfl rfl) ?_
    refine xl_pure rfl rfl rfl (pv_move (v := .int _ _) rfl rfl) ?_
    refine xl_pure rfl rfl rfl (pv_move (v := .slice _ _ _) rfl rfl) ?_
    refine xl_pure rfl rfl rfl (pv_move (v := .int _ _) rfl rfl) ?_
    refine xl_pure rfl rfl rfl (pv_move (v := .int _ _) rfl rfl) ?_
    refine xl_pure rfl rfl rfl (pv_add rfl rfl rfl (fit_i64 (by omega))) ?_
    refine xl_heavy rfl rfl rfl (hv_call (g := 44) rfl rfl (gDelete mL hexl2 hnl hmk.wide (posM (gM X (ix id)) ch) hp1 (by omega)) rfl) ?_
    rintro v7_6 H7_6 ⟨ex7_6, rfl, m7_6, hB7_6⟩
    have hX := hX.upd hB7_6 ⟨Nat.le_trans hX0s hgl⟩
    refine xl_heavy rfl rfl rfl (hv_call (g := 43) rfl rfl (fnC_int hixv (gChange (c := c) (B := B) (ex := ex) (X := X) (hae ▸ mp.ext hX) (mg.ext hX) hBg (hM.ext hX) (ix id) hix (l := wo (gM X (ix id)) ch) (len_wo hmk hhas) (by rw [wo_at hhas]; exact blk_rowsT m7_6 (hmk.wide.take.app hmk.wide.drop)) (mok_wo hmk))) rfl) ?_
    rintro v7_7 H7_7 ⟨hs7_7, rfl, mp7_7, mg7_7, hM7_7, hK7_7⟩
    have hK := ext_keepGF hX hK7_7
    refine xl_pure rfl rfl rfl (pv_assign (v := .int _ _) rfl rfl) ?_
    refine xl_nil ?_
    refine xthen_normal ?_
    refine xc_ret ?_
    refine fin_ret (res1 (v := .int _ _) rfl rfl) ?_
    have e0 := exp_set h2_1
    have eln : (expX X id ch).length = X.length := len_exp
    refine ⟨by rw [e0.1]; rfl, ⟨some ⟨gb, 0, none⟩, c, hs7_7, by rw [eln]; exact mp7_7, ?_, by rw [e0.2]; exact hM7_7⟩, hK⟩
    have hl0 := hM.1
    have hl1 : hs7_7.length = X.length := by have h := hM7_7.1; rw [h]; split; exact List.length_set; rfl
    rw [eln]
    exact own_mk mg7_7 hBg (by omega) (by rw [List.length_append, hl1, ← hl0, ← List.length_append]; exact hexl) hnc hcm
  · skip
    refine xl_nil ?_
    refine xthen_normal ?_
    refine xc_cond_t rfl ?_
    refine xc_seq ?_
    refine xc_region ?_
    refine xl_pure rfl rfl rfl (pv_move (v := .int _ _) rfl rfl) ?_
    refine xl_pure rfl rfl rfl (pv_assign (v := .int _ _) rfl rfl) ?_
    refine xl_nil ?_
    refine xthen_normal ?_
    refine xc_ret ?_
    refine xthen_ret ?_
    refine fin_ret (res1 (v := .int _ _) rfl rfl) ?_
    obtain ⟨e1, e2⟩ := exp_no h2_1
    exact ⟨by rw [e1], by rw [e2]; exact GAt.ext ⟨_, _, _, mp, hO, hM⟩ hX, ext_keepGF hX (KeepF.refl _ _)⟩

theorem gExpeln {O : Outer} {H : Heap} (id ch : Int) :
    FnC Try.prog 23 #[.pointer none, .int .i64 id, .int .i64 ch] O H (fun v H' => v = .int .i64 1 ∧ Ext H H') := by
  refine fn_enter (A := [.pointer none, .int .i64 id, .int .i64 ch]) Try.func23 rfl rfl ?_
  have hX := Ext.refl H
  refine xc_seq ?_
  refine xc_region ?_
  refine xl_pure rfl rfl rfl (pv_assign (v := .int _ _) rfl rfl) ?_
  refine xl_nil ?_
  refine xthen_normal ?_
  refine xc_seq ?_
  refine xc_seq ?_
  refine xc_region ?_
  refine xl_pure rfl rfl rfl (pv_move (v := .pointer _) rfl rfl) ?_
  refine xl_pure rfl rfl rfl (pv_move (v := .int _ _) rfl rfl) ?_
  refine xl_pure rfl rfl rfl (pv_move (v := .int _ _) rfl rfl) ?_
  refine xl_heavy rfl rfl rfl (hv_call (g := 34) rfl rfl (gRolesn id ch) rfl) ?_
  rintro v1_3 H1_3 ⟨rfl, hE1_3⟩
  have hX := hX.trans hE1_3
  refine xl_pure rfl rfl rfl (pv_move (v := .tuple _) rfl rfl) ?_
  refine xl_pure rfl rfl rfl (pv_extract (v := .int _ _) rfl rfl rfl) ?_
  refine xl_pure rfl rfl rfl (pv_extract (v := .int _ _) rfl rfl rfl) ?_
  refine xl_pure rfl rfl rfl (pv_assign (v := .int _ _) rfl rfl) ?_
  refine xl_pure rfl rfl rfl (pv_assign (v := .int _ _) rfl rfl) ?_
  refine xl_nil ?_
  refine xthen_normal ?_
  refine xc_seq ?_
  refine xc_region ?_
  refine xl_pure rfl rfl rfl (pv_move (v := .int _ _) rfl rfl) ?_
  refine xl_ndec rfl rfl rfl (pv_neq rfl rfl rfl) (fun h2_1 => ?_) (fun h2_1 => ?_)
  · exact absurd h2_1 (by decide)
  · skip
    refine xl_nil ?_
    refine xthen_normal ?_
    refine xc_cond_t rfl ?_
    refine xc_seq ?_
    refine xc_region ?_
    refine xl_pure rfl rfl rfl (pv_move (v := .int _ _) rfl rfl) ?_
    refine xl_pure rfl rfl rfl (pv_assign (v := .int _ _) rfl rfl) ?_
    refine xl_nil ?_
    refine xthen_normal ?_
    refine xc_ret ?_
    refine xthen_ret ?_
    refine fin_ret (res1 (v := .int _ _) rfl rfl) ?_
    exact ⟨rfl, hX⟩
end Go.XG
