/-
  Walks of the seat's functions over the logic XG: each function, what it computes. Printed by a program out of wip/walks.py.
-/
import Derived.Test.YtecjgodbgfollaaI
import Derived.Test.YtecjgodbgfollaaLn
import Derived.Test.YtecjgodbgfollaaNa
import Derived.Test.YtecjgodbgfollaaNb
import Derived.Test.YtecjgodbgfollaaNc
import Derived.Test.YtecjgodbgfollaaNd
import Derived.Test.YtecjgodbgfollaaNf
import Derived.Test.YtecjgodbgfollaaNg
import Derived.Test.YtecjgodbgfollaaE
import Derived.Test.YtecjgodbgfollaaWa
import Derived.Test.YtecjgodbgfollaaWb
import Derived.Test.YtecjgodbgfollaaWc
import Derived.Test.YtecjgodbgfollaaWd
import Derived.Test.YtecjgodbgfollaaWe
import Derived.Test.YtecjgodbgfollaaWf
import Derived.Test.YtecjgodbgfollaaWg
import Derived.Test.YtecjgodbgfollaaWh
namespace Go.XG
open Go.Proofs Go.Pen
set_option maxRecDepth 4000
set_option maxHeartbeats 4000000
theorem c30 {O : Outer} {H : Heap} (a w i s f0 t0 : Int) (x y : Nat) (hx : Blk H x [.int .i64 f0] 3) (hy : Blk H y [.int .i64 t0] 3) :
    FnC Try.prog 30 #[.agg #[.int .i64 a, .int .i64 w, .int .i64 i, .int .i64 s], .pointer (some ⟨x, 0, none⟩), .pointer (some ⟨y, 0, none⟩)] O H (fun v H' => v = .bool (!btw f0 t0 [a, w, i, s]) ∧ Ext H H') := by
  refine fn_enter (A := [.agg #[.int .i64 a, .int .i64 w, .int .i64 i, .int .i64 s], .pointer (some ⟨x, 0, none⟩), .pointer (some ⟨y, 0, none⟩)]) Try.func30 rfl rfl ?_
  have hX := Ext.refl H
  refine xc_seq ?_
  refine xc_region ?_
  refine xl_heavy rfl rfl rfl (hv_box rfl rfl) ?_
  rintro v0_0 H0_0 ⟨b0_0, rfl, hN0_0⟩
  have gb0_0 := hX.fresh hN0_0
  have nhx_0_0 := hx.apart hN0_0
  have nhy_0_0 := hy.apart hN0_0
  have hx := hx.ext hN0_0.ext
  have hy := hy.ext hN0_0.ext
  have hX := hX.trans hN0_0.ext
  have m0_0 := hN0_0.blk
  refine xl_pure rfl rfl rfl (pv_assign (v := .bool _) rfl rfl) ?_
  refine xl_nil ?_
  refine xthen_normal ?_
  refine xc_seq ?_
  refine xc_region ?_
  refine xl_pure rfl rfl rfl (pv_fieldAddr rfl rfl) ?_
  refine xl_light rfl rfl rfl (lv_load (v := .int _ _) rfl rfl (ld_blk m0_0 rfl)) ?_
  refine xl_light rfl rfl rfl (lv_load (v := .int _ _) rfl rfl (ld_blk hx rfl)) ?_
  refine xl_dec rfl rfl rfl (pv_lss rfl rfl rfl) (fun h1_3 => ?_) (fun h1_3 => ?_)
  · skip
    refine xl_pure rfl rfl rfl (pv_move (v := .bool _) rfl rfl) ?_
    refine xl_skip rfl rfl rfl ?_
    refine xl_skip rfl rfl rfl ?_
    refine xl_skip rfl rfl rfl ?_
    refine xl_skip rfl rfl rfl ?_
    refine xl_pure rfl rfl rfl (pv_pick_t (v := .bool _) rfl rfl rfl) ?_
    refine xl_pure rfl rfl rfl (pv_assign (v := .bool _) rfl rfl) ?_
    refine xl_nil ?_
    refine xthen_normal ?_
    refine xc_ret ?_
    refine fin_ret (res1 (v := .bool _) rfl rfl) ?_
    exact ⟨congrArg Value.bool (by unfold btw; simp; omega), hX⟩
  · skip
    refine xl_pure rfl rfl rfl (pv_move (v := .bool _) rfl rfl) ?_
    refine xl_pure rfl rfl rfl (pv_fieldAddr rfl rfl) ?_
    refine xl_light rfl rfl rfl (lv_load (v := .int _ _) rfl rfl (ld_blk m0_0 rfl)) ?_
    refine xl_light rfl rfl rfl (lv_load (v := .int _ _) rfl rfl (ld_blk hy rfl)) ?_
    refine xl_dec rfl rfl rfl (pv_geq rfl rfl rfl) (fun h1_8 => ?_) (fun h1_8 => ?_)
    · skip
      refine xl_pure rfl rfl rfl (pv_pick_f (v := .bool _) rfl rfl rfl) ?_
      refine xl_pure rfl rfl rfl (pv_assign (v := .bool _) rfl rfl) ?_
      refine xl_nil ?_
      refine xthen_normal ?_
      refine xc_ret ?_
      refine fin_ret (res1 (v := .bool _) rfl rfl) ?_
      exact ⟨congrArg Value.bool (by unfold btw; simp; omega), hX⟩
    · skip
      refine xl_pure rfl rfl rfl (pv_pick_f (v := .bool _) rfl rfl rfl) ?_
      refine xl_pure rfl rfl rfl (pv_assign (v := .bool _) rfl rfl) ?_
      refine xl_nil ?_
      refine xthen_normal ?_
      refine xc_ret ?_
      refine fin_ret (res1 (v := .bool _) rfl rfl) ?_
      exact ⟨congrArg Value.bool (by unfold btw; simp; omega), hX⟩

theorem c30r {O : Outer} {H : Heap} (r : List Int) (h : r.length = 4) (f0 t0 : Int) (x y : Nat) (hx : Blk H x [.int .i64 f0] 3) (hy : Blk H y [.int .i64 t0] 3) : FnC Try.prog 30 #[.agg (ints r).toArray, .pointer (some ⟨x, 0, none⟩), .pointer (some ⟨y, 0, none⟩)] O H (fun v H' => v = .bool (!btw f0 t0 r) ∧ Ext H H') := by
  match r, h with
  | [a, w, i, s], _ => exact c30 a w i s f0 t0 x y hx hy

theorem c39 {O : Outer} {H : Heap} (l : List (List Int)) (a : Option Addr) (c : Nat) (hs : Rows H a 4 l) (hl : l.length < 4611686018427387904) (p : List Int → Bool) (g : Nat) (u1 u2 : Value) (K : Heap → Prop) [Has Try.prog g] (hK : K H) (hKe : ∀ H1 H2, K H1 → Ext H1 H2 → K H2) (hf : ∀ (i : Nat) (H1 : Heap), i < l.length → K H1 → FnC Try.prog g #[.agg (ints (gr l i)).toArray, u1, u2] O H1 (fun v H' => v = .bool (p (gr l i)) ∧ Ext H1 H')) :
    FnC Try.prog 39 #[.slice a l.length c, .func (.func g) #[] #[u1, u2]] O H (fun v H' => ∃ i : Int, v = .int .i64 i ∧ (i = -1 ∧ (∀ j, j < l.length → p (gr l j) = false) ∨ ∃ n : Nat, n < l.length ∧ i = n ∧ p (gr l n) = true ∧ ∀ j, j < n → p (gr l j) = false) ∧ Ext H H') := by
  refine fn_enter (A := [.slice a l.length c, .func (.func g) #[] #[u1, u2]]) Try.func39 rfl rfl ?_
  refine xc_seq ?_
  refine xc_region ?_
  refine xl_pure rfl rfl rfl (pv_assign (v := .int _ _) rfl rfl) ?_
  refine xl_nil ?_
  refine xthen_normal ?_
  refine xc_seq ?_
  refine xc_seq ?_
  refine xc_region ?_
  refine xl_pure rfl rfl rfl (pv_move (v := .slice _ _ _) rfl rfl) ?_
  refine xl_pure rfl rfl rfl (pv_len_l rfl rfl) ?_
  refine xl_pure rfl rfl rfl (pv_move (v := .int _ _) rfl rfl) ?_
  refine xl_nil ?_
  refine xthen_normal ?_
  refine xc_block ?_
  refine xc_loop (τ := Nat) (fun t => [(0, .slice a l.length c), (1, .func (.func g) #[] #[u1, u2]), (7, .int .i64 (l.length : Nat)), (8, .int .i64 (t : Nat))]) (fun t H' => t ≤ l.length ∧ (∀ j, j < t → p (gr l j) = false) ∧ Ext H H') (fun t H' => l.length - t) 0 ?_ ?_ ?_
  · exact ⟨rfl, rfl, rfl, rfl, trivial⟩
  · skip
    exact ⟨Nat.zero_le _, fun j hj => absurd hj (by omega), Ext.refl _⟩
  · intro σ
    rintro k Hl ⟨hk, hno, hX⟩
    show XC _ _ _ (upds σ [(0, .slice a l.length c), (1, .func (.func g) #[] #[u1, u2]), (7, .int .i64 (l.length : Nat)), (8, .int .i64 (k : Nat))]) _
    refine xc_seq ?_
    refine xc_region ?_
    refine xl_dec rfl rfl rfl (pv_lss rfl rfl rfl) (fun h2_0 => ?_) (fun h2_0 => ?_)
    · skip
      refine xl_nil ?_
      refine xthen_normal ?_
      refine xc_seq ?_
      refine xc_cond_t rfl ?_
      refine xc_skip ?_
      refine xthen_normal ?_
      refine xc_seq ?_
      refine xc_block ?_
      refine xc_seq ?_
      refine xc_region ?_
      refine xl_pure rfl rfl rfl (pv_move (v := .int _ _) rfl rfl) ?_
      refine xl_pure rfl rfl rfl (pv_assign (v := .int _ _) rfl rfl) ?_
      refine xl_nil ?_
      refine xthen_normal ?_
      refine xc_seq ?_
      obtain ⟨ba, off, hae, hsa⟩ := hs.2.resolve_left (by omega)
      subst hae
      refine xc_region ?_
      refine xl_pure rfl rfl rfl (pv_move rfl rfl) ?_
      refine xl_pure rfl rfl rfl (pv_move (v := .slice _ _ _) rfl rfl) ?_
      refine xl_pure rfl rfl rfl (pv_move (v := .int _ _) rfl rfl) ?_
      refine xl_pure rfl rfl rfl (pv_indexAddr_l rfl rfl rfl (by omega)) ?_
      refine xl_light rfl rfl rfl (lv_load (v := .agg _) rfl rfl (by first | exact ld_row' (i := k) (hsa.ext hX) hs.1 (by omega))) ?_
      refine xl_heavy rfl rfl rfl (hv_call (g := g) rfl rfl (hf k _ (by omega) (hKe _ _ hK hX)) rfl) ?_
      rintro v4_5 H4_5 ⟨rfl, hE4_5⟩
      have hX := hX.trans hE4_5
      generalize hp4_5 : p (gr l k) = pk
      cases pk
      · skip
        refine xl_nil ?_
        refine xthen_normal ?_
        refine xc_cond_f rfl ?_
        refine xc_skip ?_
        refine xblock_normal ?_
        refine xthen_normal ?_
        refine xc_region ?_
        refine xl_pure rfl rfl rfl (pv_add rfl rfl rfl (fit_i64 (by omega))) ?_
        refine xl_pure rfl rfl rfl (pv_move (v := .int _ _) rfl rfl) ?_
        refine xl_nil ?_
        refine xthen_normal ?_
        exact ⟨k + 1, ⟨rfl, rfl, rfl, rfl, trivial⟩, ⟨by omega, fun j hj => by rcases Nat.lt_or_eq_of_le (Nat.le_of_lt_succ hj) with h | h; exact hno j h; subst h; exact hp4_5, hX⟩, by omega⟩
      · skip
        refine xl_nil ?_
        refine xthen_normal ?_
        refine xc_cond_t rfl ?_
        refine xc_seq ?_
        refine xc_region ?_
        refine xl_pure rfl rfl rfl (pv_move (v := .int _ _) rfl rfl) ?_
        refine xl_pure rfl rfl rfl (pv_assign (v := .int _ _) rfl rfl) ?_
        refine xl_nil ?_
        refine xthen_normal ?_
        refine xc_ret ?_
        refine xblock_ret ?_
        refine xthen_ret ?_
        refine xthen_ret ?_
        refine xblock_ret ?_
        refine xthen_ret ?_
        refine fin_ret (res1 (v := .int _ _) rfl rfl) ?_
        exact ⟨_, rfl, .inr ⟨k, by omega, rfl, hp4_5, hno⟩, hX⟩
    · skip
      refine xl_nil ?_
      refine xthen_normal ?_
      refine xc_seq ?_
      refine xc_cond_f rfl ?_
      refine xc_exit ?_
      refine xthen_exit ?_
      refine xthen_exit ?_
      refine xblock_same ?_
      refine xthen_normal ?_
      refine xc_seq ?_
      refine xc_region ?_
      refine xl_pure rfl rfl rfl (pv_assign (v := .int _ _) rfl rfl) ?_
      refine xl_nil ?_
      refine xthen_normal ?_
      refine xc_ret ?_
      refine fin_ret (res1 (v := .int _ _) rfl rfl) ?_
      exact ⟨_, rfl, .inl ⟨rfl, fun j hj => hno j (by omega)⟩, hX⟩

theorem c29 {O : Outer} {H : Heap} {b : Nat} (l : List (List Int)) (c : Nat) (ex : List Value) (hw : Wide 4 l) (hc : l.length ≤ c) (hb : Blk H b (fr l ++ ex) 29) (hl : l.length < 4611686018427387904) (p : List Int → Bool) (g : Nat) (u1 u2 : Value) (K : Heap → Prop) [Has Try.prog g] (hK : K H) (hKe : ∀ H1 H2, K H1 → Ext H1 H2 → K H2) (hKb : ∀ H1 H2, K H1 → But b H1 H2 → K H2) (hf : ∀ (i : Nat) (H1 : Heap), i < l.length → K H1 → FnC Try.prog g #[.agg (ints (gr l i)).toArray, u1, u2] O H1 (fun v H' => v = .bool (p (gr l i)) ∧ Ext H1 H')) :
    FnC Try.prog 29 #[.slice (some ⟨b, 0, none⟩) l.length c, .func (.func g) #[] #[u1, u2]] O H (fun v H' => ∃ a' n' c', v = .slice a' n' c' ∧ n' = (l.filter fun r => !p r).length ∧ Rows H' a' 4 (l.filter fun r => !p r) ∧ But b H H') := by
  refine fn_enter (A := [.slice (some ⟨b, 0, none⟩) l.length c, .func (.func g) #[] #[u1, u2]]) Try.func29 rfl rfl ?_
  refine xc_seq ?_
  refine xc_region ?_
  refine xl_pure rfl rfl rfl (pv_assign (v := .slice _ _ _) rfl rfl) ?_
  refine xl_nil ?_
  refine xthen_normal ?_
  refine xc_seq ?_
  refine xc_region ?_
  refine xl_pure rfl rfl rfl (pv_move (v := .slice _ _ _) rfl rfl) ?_
  refine xl_pure rfl rfl rfl (pv_move rfl rfl) ?_
  refine xl_heavy rfl rfl rfl (hv_call (g := 39) rfl rfl (c39 l _ c ⟨hw, .inr ⟨b, 0, rfl, rows_row hw hb.row.pre⟩⟩ hl p g u1 u2 K hK hKe hf) rfl) ?_
  rintro v1_2 H1_2 ⟨i1_2, rfl, hi1_2, hE1_2⟩
  have hB := hE1_2.but b
  have hb := hb.ext hE1_2
  refine xl_pure rfl rfl rfl (pv_assign (v := .int _ _) rfl rfl) ?_
  refine xl_nil ?_
  refine xthen_normal ?_
  refine xc_seq ?_
  refine xc_seq ?_
  refine xc_region ?_
  refine xl_pure rfl rfl rfl (pv_move (v := .int _ _) rfl rfl) ?_
  refine xl_dec rfl rfl rfl (pv_eql rfl rfl rfl) (fun h2_1 => ?_) (fun h2_1 => ?_)
  · skip
    refine xl_nil ?_
    refine xthen_normal ?_
    refine xc_cond_t rfl ?_
    refine xc_seq ?_
    have hnone : ∀ j, j < l.length → p (gr l j) = false := by
      rcases hi1_2 with ⟨_, h⟩ | ⟨n, hn, h, _⟩
      · exact h
      · omega
    refine xc_region ?_
    refine xl_pure rfl rfl rfl (pv_move (v := .slice _ _ _) rfl rfl) ?_
    refine xl_pure rfl rfl rfl (pv_assign (v := .slice _ _ _) rfl rfl) ?_
    refine xl_nil ?_
    refine xthen_normal ?_
    refine xc_ret ?_
    refine xthen_ret ?_
    refine fin_ret (res1 (v := .slice _ _ _) rfl rfl) ?_
    exact ⟨_, _, _, rfl, by rw [filter_all hnone], ⟨hw.filter _, by rw [filter_all hnone]; exact .inr ⟨b, 0, rfl, rows_row hw hb.row.pre⟩⟩, hB⟩
  · skip
    refine xl_nil ?_
    refine xthen_normal ?_
    refine xc_cond_f rfl ?_
    refine xc_skip ?_
    refine xthen_normal ?_
    refine xc_seq ?_
    refine xc_seq ?_
    obtain ⟨n, hn, rfl, hpn, hno⟩ := hi1_2.resolve_left (fun h => h2_1 h.1)
    obtain ⟨hd0, he0⟩ := del_start hw hn hpn hno
    rw [← he0] at hb
    refine xc_region ?_
    refine xl_pure rfl rfl rfl (pv_move (v := .int _ _) rfl rfl) ?_
    refine xl_pure rfl rfl rfl (pv_add rfl rfl rfl (fit_i64 (by omega))) ?_
    refine xl_pure rfl rfl rfl (pv_assign (v := .int _ _) rfl rfl) ?_
    refine xl_nil ?_
    refine xthen_normal ?_
    refine xc_block ?_
    refine xc_loop (τ := List (List Int) × List (List Int) × Nat) (fun t => [(0, .slice (some ⟨b, 0, none⟩) l.length c), (1, .func (.func g) #[] #[u1, u2]), (5, .int .i64 (List.length t.1 : Nat)), (6, .int .i64 (t.2.2 : Nat))]) (fun t H' => Del l p 4 t.1 t.2.1 t.2.2 ∧ Blk H' b (fr (t.1 ++ (t.2.1 ++ l.drop t.2.2)) ++ ex) 29 ∧ But b H H') (fun t H' => l.length - t.2.2) (l.take n, [gr l n], n + 1) ?_ ?_ ?_
    · exact ⟨rfl, rfl, iv (by simp; omega), rfl, trivial⟩
    · skip
      exact ⟨hd0, hb, hB⟩
    · intro σ
      clear hb hB
      rintro ⟨kept, mid, j⟩ Hl ⟨hd, hb, hB⟩
      simp only at hd hb
      have hle := hd.le
      have hlen := hd.len
      show XC _ _ _ (upds σ [(0, .slice (some ⟨b, 0, none⟩) l.length c), (1, .func (.func g) #[] #[u1, u2]), (5, .int .i64 (List.length kept : Nat)), (6, .int .i64 (j : Nat))]) _
      refine xc_seq ?_
      refine xc_seq ?_
      refine xc_region ?_
      refine xl_pure rfl rfl rfl (pv_move (v := .int _ _) rfl rfl) ?_
      refine xl_pure rfl rfl rfl (pv_move (v := .slice _ _ _) rfl rfl) ?_
      refine xl_pure rfl rfl rfl (pv_len_l rfl rfl) ?_
      refine xl_dec rfl rfl rfl (pv_lss rfl rfl rfl) (fun h5_3 => ?_) (fun h5_3 => ?_)
      · skip
        refine xl_nil ?_
        refine xthen_normal ?_
        refine xc_cond_t rfl ?_
        refine xc_skip ?_
        refine xthen_normal ?_
        refine xc_seq ?_
        refine xc_block ?_
        refine xc_seq ?_
        have hrow := del_row hd hw (by omega) hb
        refine xc_region ?_
        refine xl_pure rfl rfl rfl (pv_move (v := .slice _ _ _) rfl rfl) ?_
        refine xl_pure rfl rfl rfl (pv_move (v := .int _ _) rfl rfl) ?_
        refine xl_pure rfl rfl rfl (pv_indexAddr_l rfl rfl rfl (by omega)) ?_
        refine xl_light rfl rfl rfl (lv_load (v := .agg _) rfl rfl (by first | exact hrow)) ?_
        refine xl_heavy rfl rfl rfl (hv_alloc rfl rfl) ?_
        rintro v7_4 H7_4 ⟨b7_4, rfl, hN7_4⟩
        have hgo := hN7_4.ge
        have hne := hb.fresh hN7_4.ge
        have hb := hb.ext hN7_4.ext
        have ho := hN7_4.blk
        refine xl_store rfl rfl (hv_storeA (vs := ints (gr l j)) rfl rfl rfl (by exact ho) (ints_len hw (by omega)) (by rfl) (ints_one _)) ?_
        rintro v7_5 H7_5 ⟨hU7_5, hZ7_5⟩
        have hb := hb.but hU7_5.but hne
        have ho := hU7_5.blk
        have hB := hB.trans ((hN7_4.ext.ofBut hU7_5.but hN7_4.ge).but b)
        refine xl_nil ?_
        refine xthen_normal ?_
        refine xc_seq ?_
        refine xc_region ?_
        refine xl_pure rfl rfl rfl (pv_move rfl rfl) ?_
        refine xl_light rfl rfl rfl (lv_load (v := .agg _) rfl rfl (by first | exact ld_agg rfl ho.row (ints_len hw (by omega)))) ?_
        refine xl_heavy rfl rfl rfl (hv_call (g := g) rfl rfl (hf j _ (by omega) (hKb _ _ hK hB)) rfl) ?_
        rintro v8_2 H8_2 ⟨rfl, hE8_2⟩
        have hB := hB.trans (hE8_2.but b)
        have hb := hb.ext hE8_2
        have ho := ho.ext hE8_2
        generalize hp8_2 : p (gr l j) = pk
        cases pk
        · skip
          refine xl_pure rfl rfl rfl (pv_not rfl rfl) ?_
          refine xl_nil ?_
          refine xthen_normal ?_
          refine xc_cond_t rfl ?_
          refine xc_seq ?_
          obtain ⟨x, rest, rfl⟩ := del_mid hd
          refine xc_region ?_
          refine xl_pure rfl rfl rfl (pv_move (v := .slice _ _ _) rfl rfl) ?_
          refine xl_pure rfl rfl rfl (pv_move (v := .int _ _) rfl rfl) ?_
          refine xl_light rfl rfl rfl (lv_load (v := .agg _) rfl rfl (by first | exact ld_agg rfl ho.row (ints_len hw (by omega)))) ?_
          refine xl_pure rfl rfl rfl (pv_indexAddr_l rfl rfl rfl (by omega)) ?_
          refine xl_store rfl rfl (hv_store (vs := ints (gr l j)) rfl rfl rfl (by exact hb) (ints_len hw (by omega)) (by rw [List.length_append, fr_len ((hd.wideK hw).app (hd.wide.app hw.drop))]; simp; omega) (ints_one _)) ?_
          rintro v9_4 H9_4 ⟨hU9_4, hZ9_4⟩
          have hb := hU9_4.blk
          rw [Int.toNat_natCast, del_put hd hw (by omega)] at hb
          have hB := hB.trans hU9_4.but
          refine xl_nil ?_
          refine xthen_normal ?_
          refine xc_region ?_
          refine xl_pure rfl rfl rfl (pv_move (v := .int _ _) rfl rfl) ?_
          refine xl_pure rfl rfl rfl (pv_add rfl rfl rfl (fit_i64 (by omega))) ?_
          refine xl_pure rfl rfl rfl (pv_assign (v := .int _ _) rfl rfl) ?_
          refine xl_nil ?_
          refine xblock_normal ?_
          refine xthen_normal ?_
          refine xc_region ?_
          refine xl_pure rfl rfl rfl (pv_move (v := .int _ _) rfl rfl) ?_
          refine xl_pure rfl rfl rfl (pv_add rfl rfl rfl (fit_i64 (by omega))) ?_
          refine xl_pure rfl rfl rfl (pv_assign (v := .int _ _) rfl rfl) ?_
          refine xl_nil ?_
          refine xthen_normal ?_
          first
            | exact ⟨(kept, mid ++ [gr l j], j + 1), ⟨rfl, rfl, rfl, rfl, trivial⟩, ⟨del_skip hd hw (by omega) hp8_2, (by rw [drop_gr (by omega)] at hb; simpa using hb), hB⟩, by simp only; omega⟩
            | exact ⟨(kept ++ [gr l j], rest ++ [gr l j], j + 1), ⟨rfl, rfl, iv (by simp), rfl, trivial⟩, ⟨del_take hd hw (by omega) hp8_2, hb, hB⟩, by simp only; omega⟩
        · skip
          refine xl_pure rfl rfl rfl (pv_not rfl rfl) ?_
          refine xl_nil ?_
          refine xthen_normal ?_
          refine xc_cond_f rfl ?_
          refine xc_skip ?_
          refine xblock_normal ?_
          refine xthen_normal ?_
          refine xc_region ?_
          refine xl_pure rfl rfl rfl (pv_move (v := .int _ _) rfl rfl) ?_
          refine xl_pure rfl rfl rfl (pv_add rfl rfl rfl (fit_i64 (by omega))) ?_
          refine xl_pure rfl rfl rfl (pv_assign (v := .int _ _) rfl rfl) ?_
          refine xl_nil ?_
          refine xthen_normal ?_
          first
            | exact ⟨(kept, mid ++ [gr l j], j + 1), ⟨rfl, rfl, rfl, rfl, trivial⟩, ⟨del_skip hd hw (by omega) hp8_2, (by rw [drop_gr (by omega)] at hb; simpa using hb), hB⟩, by simp only; omega⟩
            | exact ⟨(kept ++ [gr l j], rest ++ [gr l j], j + 1), ⟨rfl, rfl, iv (by simp), rfl, trivial⟩, ⟨del_take hd hw (by omega) hp8_2, hb, hB⟩, by simp only; omega⟩
      · skip
        refine xl_nil ?_
        refine xthen_normal ?_
        refine xc_cond_f rfl ?_
        refine xc_exit ?_
        refine xthen_exit ?_
        refine xthen_exit ?_
        refine xblock_same ?_
        refine xthen_normal ?_
        refine xc_seq ?_
        have hlast : l.length ≤ j := by omega
        have hpos := hd.pos
        have hWd : Wide 4 (kept ++ (mid ++ l.drop j)) := (hd.wideK hw).app (hd.wide.app hw.drop)
        refine xc_region ?_
        refine xl_pure rfl rfl rfl (pv_move (v := .slice _ _ _) rfl rfl) ?_
        refine xl_pure rfl rfl rfl (pv_move (v := .int _ _) rfl rfl) ?_
        refine xl_pure rfl rfl rfl (pv_slice_l rfl rfl (.none _) (.none _) (.some rfl (by omega)) (by omega) (by simp)) ?_
        refine xl_store rfl rfl (hv_clear (off := 0 + kept.length * 4) (n := l.length - kept.length) rfl (congrArg (fun a => Value.slice a (l.length - kept.length) (c - kept.length)) (cut_at (by omega))) (by omega) rfl (by exact hb) (by rw [zeroCells_len]; show 0 + kept.length * 4 + (l.length - kept.length) * 4 ≤ _; rw [List.length_append, fr_len hWd]; simp; omega) (zeroCells_one _ _ (by decide) (by decide))) ?_
        rintro v11_3 H11_3 hU11_3
        have hB := hB.trans hU11_3.but
        have hend := del_end hd hw hlast hU11_3.blk
        refine xl_nil ?_
        refine xthen_normal ?_
        refine xc_seq ?_
        refine xc_region ?_
        refine xl_pure rfl rfl rfl (pv_move (v := .slice _ _ _) rfl rfl) ?_
        refine xl_pure rfl rfl rfl (pv_move (v := .int _ _) rfl rfl) ?_
        refine xl_pure rfl rfl rfl (pv_slice_l rfl rfl (.none _) (.some rfl (by omega)) (.none _) (by omega) (by simp)) ?_
        refine xl_pure rfl rfl rfl (pv_assign (v := .slice _ _ _) rfl rfl) ?_
        refine xl_nil ?_
        refine xthen_normal ?_
        refine xc_ret ?_
        refine fin_ret (res1 (v := .slice _ _ _) rfl rfl) ?_
        exact ⟨_, _, _, rfl, hend.2, by rw [cut_0]; exact hend.1, hB⟩

theorem c39n {O : Outer} {H : Heap} (u1 u2 : Value) :
    FnC Try.prog 39 #[.slice none 0 0, .func (.func 30) #[] #[u1, u2]] O H (fun v H' => v = .int .i64 (-1) ∧ Ext H H') := by
  refine fn_enter (A := [.slice none 0 0, .func (.func 30) #[] #[u1, u2]]) Try.func39 rfl rfl ?_
  have hX := Ext.refl H
  refine xc_seq ?_
  refine xc_region ?_
  refine xl_pure rfl rfl rfl (pv_assign (v := .int _ _) rfl rfl) ?_
  refine xl_nil ?_
  refine xthen_normal ?_
  refine xc_seq ?_
  refine xc_seq ?_
  refine xc_region ?_
  refine xl_pure rfl rfl rfl (pv_move (v := .slice _ _ _) rfl rfl) ?_
  refine xl_pure rfl rfl rfl (pv_len_l rfl rfl) ?_
  refine xl_pure rfl rfl rfl (pv_move (v := .int _ _) rfl rfl) ?_
  refine xl_nil ?_
  refine xthen_normal ?_
  refine xc_block ?_
  refine xc_loop (τ := Unit) (fun t => [(0, .slice none 0 0), (1, .func (.func 30) #[] #[u1, u2]), (7, .int .i64 (0 : Nat)), (8, .int .i64 0)]) (fun t H' => (Ext H H')) (fun t H' => 0) () ?_ ?_ ?_
  · exact ⟨rfl, rfl, rfl, rfl, trivial⟩
  · skip
    exact hX
  · intro σ
    clear hX
    rintro t Hl2 hX
    replace hX : Ext H Hl2 := hX
    show XC _ _ _ (upds σ [(0, .slice none 0 0), (1, .func (.func 30) #[] #[u1, u2]), (7, .int .i64 (0 : Nat)), (8, .int .i64 0)]) _
    refine xc_seq ?_
    refine xc_region ?_
    refine xl_dec rfl rfl rfl (pv_lss rfl rfl rfl) (fun h2_0 => ?_) (fun h2_0 => ?_)
    · exact absurd h2_0 (by omega)
    · skip
      refine xl_nil ?_
      refine xthen_normal ?_
      refine xc_seq ?_
      refine xc_cond_f rfl ?_
      refine xc_exit ?_
      refine xthen_exit ?_
      refine xthen_exit ?_
      refine xblock_same ?_
      refine xthen_normal ?_
      refine xc_seq ?_
      refine xc_region ?_
      refine xl_pure rfl rfl rfl (pv_assign (v := .int _ _) rfl rfl) ?_
      refine xl_nil ?_
      refine xthen_normal ?_
      refine xc_ret ?_
      refine fin_ret (res1 (v := .int _ _) rfl rfl) ?_
      exact ⟨rfl, hX⟩

theorem c29n {O : Outer} {H : Heap} (u1 u2 : Value) :
    FnC Try.prog 29 #[.slice none 0 0, .func (.func 30) #[] #[u1, u2]] O H (fun v H' => v = .slice none 0 0 ∧ Ext H H') := by
  refine fn_enter (A := [.slice none 0 0, .func (.func 30) #[] #[u1, u2]]) Try.func29 rfl rfl ?_
  have hX := Ext.refl H
  refine xc_seq ?_
  refine xc_region ?_
  refine xl_pure rfl rfl rfl (pv_assign (v := .slice _ _ _) rfl rfl) ?_
  refine xl_nil ?_
  refine xthen_normal ?_
  refine xc_seq ?_
  refine xc_region ?_
  refine xl_pure rfl rfl rfl (pv_move (v := .slice _ _ _) rfl rfl) ?_
  refine xl_pure rfl rfl rfl (pv_move rfl rfl) ?_
  refine xl_heavy rfl rfl rfl (hv_call (g := 39) rfl rfl (c39n u1 u2) rfl) ?_
  rintro v1_2 H1_2 ⟨rfl, hE1_2⟩
  have hX := hX.trans hE1_2
  refine xl_pure rfl rfl rfl (pv_assign (v := .int _ _) rfl rfl) ?_
  refine xl_nil ?_
  refine xthen_normal ?_
  refine xc_seq ?_
  refine xc_seq ?_
  refine xc_region ?_
  refine xl_pure rfl rfl rfl (pv_move (v := .int _ _) rfl rfl) ?_
  refine xl_dec rfl rfl rfl (pv_eql rfl rfl rfl) (fun h2_1 => ?_) (fun h2_1 => ?_)
  · skip
    refine xl_nil ?_
    refine xthen_normal ?_
    refine xc_cond_t rfl ?_
    refine xc_seq ?_
    refine xc_region ?_
    refine xl_pure rfl rfl rfl (pv_move (v := .slice _ _ _) rfl rfl) ?_
    refine xl_pure rfl rfl rfl (pv_assign (v := .slice _ _ _) rfl rfl) ?_
    refine xl_nil ?_
    refine xthen_normal ?_
    refine xc_ret ?_
    refine xthen_ret ?_
    refine fin_ret (res1 (v := .slice _ _ _) rfl rfl) ?_
    exact ⟨rfl, hX⟩
  · exact absurd (by decide) h2_1
end Go.XG
