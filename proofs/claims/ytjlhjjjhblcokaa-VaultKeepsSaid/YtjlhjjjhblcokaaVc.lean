/-
  Walks of the seat's functions over the logic XG: each function, what it computes. Printed by a program out of wip/walks.py.
-/
import Derived.Test.YtjlhjjjhblcokaaI
import Derived.Test.YtjlhjjjhblcokaaXs
import Derived.Test.YtjlhjjjhblcokaaTo
import Derived.Test.YtjlhjjjhblcokaaTa
import Derived.Test.YtjlhjjjhblcokaaTb
import Derived.Test.YtjlhjjjhblcokaaKb
import Derived.Test.YtjlhjjjhblcokaaBa
import Derived.Test.YtjlhjjjhblcokaaBb
import Derived.Test.YtjlhjjjhblcokaaBc
import Derived.Test.YtjlhjjjhblcokaaKp
import Derived.Test.YtjlhjjjhblcokaaUa
import Derived.Test.YtjlhjjjhblcokaaKv
import Derived.Test.YtjlhjjjhblcokaaXw
import Derived.Test.YtjlhjjjhblcokaaVa
import Derived.Test.YtjlhjjjhblcokaaVb
namespace Go.XG.Pu
open Go.Proofs
set_option maxRecDepth 20000
set_option maxHeartbeats 4000000
theorem c33 {O : Outer} {H : Heap} {bp c : Nat} {a : Option Addr} {x : List (List Int)} (mp : Blk H bp [.slice a (tb x).length c, .int .i64 (tot x)] 92) (hR : RowsT H 138 5 a (tb x)) (hc : (tb x).length ≤ c) (hna : a = none → c = 0) (hl : (tb x).length < 1000000) (hg : Goo x) (i : Int) :
    FnC Try.prog 33 #[.pointer (some ⟨bp, 0, none⟩), .int .i64 i] O H (fun v H' => v = .int .i64 (monV x i) ∧ Ext H H') := by
  refine fn_enter (A := [.pointer (some ⟨bp, 0, none⟩), .int .i64 i]) Try.func33 rfl rfl ?_
  have hX := Ext.refl H
  refine xc_seq ?_
  refine xc_region ?_
  refine xl_pure rfl rfl rfl (pv_assign (v := .int _ _) rfl rfl) ?_
  refine xl_nil ?_
  refine xthen_normal ?_
  refine xc_seq ?_
  refine xc_region ?_
  refine xl_pure rfl rfl rfl (pv_move (v := .int _ _) rfl rfl) ?_
  refine xl_heavy rfl rfl rfl (hv_call (g := 7) rfl rfl (c7 (2) (i)) rfl) ?_
  rintro v1_1 H1_1 ⟨hv1_1, rfl⟩
  rcases hv1_1 with ⟨ho1_1, rfl⟩ | ⟨ho1_1, rfl⟩
  · skip
    refine xl_pure rfl rfl rfl (pv_move (v := .tuple _) rfl rfl) ?_
    refine xl_pure rfl rfl rfl (pv_extract (v := .int _ _) rfl rfl rfl) ?_
    refine xl_pure rfl rfl rfl (pv_extract (v := .int _ _) rfl rfl rfl) ?_
    refine xl_pure rfl rfl rfl (pv_assign (v := .int _ _) rfl rfl) ?_
    refine xl_pure rfl rfl rfl (pv_assign (v := .int _ _) rfl rfl) ?_
    refine xl_nil ?_
    refine xthen_normal ?_
    refine xc_seq ?_
    refine xc_seq ?_
    refine xc_region ?_
    refine xl_pure rfl rfl rfl (pv_move (v := .int _ _) rfl rfl) ?_
    refine xl_ndec rfl rfl rfl (pv_neq rfl rfl rfl) (fun h2_1 => ?_) (fun h2_1 => ?_)
    · skip
      refine xl_nil ?_
      refine xthen_normal ?_
      refine xc_cond_f rfl ?_
      refine xc_skip ?_
      refine xthen_normal ?_
      refine xc_seq ?_
      refine xc_region ?_
      refine xl_pure rfl rfl rfl (pv_move (v := .pointer _) rfl rfl) ?_
      refine xl_pure rfl rfl rfl (pv_move (v := .int _ _) rfl rfl) ?_
      refine xl_heavy rfl rfl rfl (hv_call (g := 67) rfl rfl (c67 (x := x) mp hR hc hna hl hg (owN 2 i)) rfl) ?_
      rintro v4_2 H4_2 ⟨hv4_2, hE4_2⟩
      have mp := mp.ext hE4_2
      have hR := hR.ext hE4_2
      have hX := hX.trans hE4_2
      rcases hv4_2 with ⟨hh4_2, rfl⟩ | ⟨hh4_2, rfl⟩
      · skip
        refine xl_pure rfl rfl rfl (pv_move (v := .tuple _) rfl rfl) ?_
        refine xl_pure rfl rfl rfl (pv_extract (v := .int _ _) rfl rfl rfl) ?_
        refine xl_pure rfl rfl rfl (pv_extract (v := .int _ _) rfl rfl rfl) ?_
        refine xl_pure rfl rfl rfl (pv_assign (v := .int _ _) rfl rfl) ?_
        refine xl_pure rfl rfl rfl (pv_assign (v := .int _ _) rfl rfl) ?_
        refine xl_nil ?_
        refine xthen_normal ?_
        refine xc_seq ?_
        refine xc_region ?_
        refine xl_pure rfl rfl rfl (pv_move (v := .int _ _) rfl rfl) ?_
        refine xl_pure rfl rfl rfl (pv_assign (v := .int _ _) rfl rfl) ?_
        refine xl_nil ?_
        refine xthen_normal ?_
        refine xc_ret ?_
        refine fin_ret (res1 (v := .int _ _) rfl rfl) ?_
        first
          | exact ⟨by rw [monV_has ho1_1 hh4_2], hX⟩
          | exact ⟨by rw [monV_none hh4_2], hX⟩
      · skip
        refine xl_pure rfl rfl rfl (pv_move (v := .tuple _) rfl rfl) ?_
        refine xl_pure rfl rfl rfl (pv_extract (v := .int _ _) rfl rfl rfl) ?_
        refine xl_pure rfl rfl rfl (pv_extract (v := .int _ _) rfl rfl rfl) ?_
        refine xl_pure rfl rfl rfl (pv_assign (v := .int _ _) rfl rfl) ?_
        refine xl_pure rfl rfl rfl (pv_assign (v := .int _ _) rfl rfl) ?_
        refine xl_nil ?_
        refine xthen_normal ?_
        refine xc_seq ?_
        refine xc_region ?_
        refine xl_pure rfl rfl rfl (pv_move (v := .int _ _) rfl rfl) ?_
        refine xl_pure rfl rfl rfl (pv_assign (v := .int _ _) rfl rfl) ?_
        refine xl_nil ?_
        refine xthen_normal ?_
        refine xc_ret ?_
        refine fin_ret (res1 (v := .int _ _) rfl rfl) ?_
        first
          | exact ⟨by rw [monV_has ho1_1 hh4_2], hX⟩
          | exact ⟨by rw [monV_none hh4_2], hX⟩
    · exact absurd (by decide) h2_1
  · skip
    refine xl_pure rfl rfl rfl (pv_move (v := .tuple _) rfl rfl) ?_
    refine xl_pure rfl rfl rfl (pv_extract (v := .int _ _) rfl rfl rfl) ?_
    refine xl_pure rfl rfl rfl (pv_extract (v := .int _ _) rfl rfl rfl) ?_
    refine xl_pure rfl rfl rfl (pv_assign (v := .int _ _) rfl rfl) ?_
    refine xl_pure rfl rfl rfl (pv_assign (v := .int _ _) rfl rfl) ?_
    refine xl_nil ?_
    refine xthen_normal ?_
    refine xc_seq ?_
    refine xc_seq ?_
    refine xc_region ?_
    refine xl_pure rfl rfl rfl (pv_move (v := .int _ _) rfl rfl) ?_
    refine xl_ndec rfl rfl rfl (pv_neq rfl rfl rfl) (fun h2_1 => ?_) (fun h2_1 => ?_)
    · exact absurd h2_1 (by decide)
    · skip
      refine xl_nil ?_
      refine xthen_normal ?_
      refine xc_cond_t rfl ?_
      refine xc_seq ?_
      refine xc_region ?_
      refine xl_pure rfl rfl rfl (pv_assign (v := .int _ _) rfl rfl) ?_
      refine xl_nil ?_
      refine xthen_normal ?_
      refine xc_ret ?_
      refine xthen_ret ?_
      refine fin_ret (res1 (v := .int _ _) rfl rfl) ?_
      exact ⟨by rw [monV_no ho1_1], hX⟩

theorem c29 {O : Outer} {H : Heap} {bp c : Nat} {a : Option Addr} {x : List (List Int)} (mp : Blk H bp [.slice a (tb x).length c, .int .i64 (tot x)] 92) (hR : RowsT H 138 5 a (tb x)) (hc : (tb x).length ≤ c) (hna : a = none → c = 0) (hl : (tb x).length < 900000) (hg : Goo x) (f i n : Int) :
    FnC Try.prog 29 #[.pointer (some ⟨bp, 0, none⟩), .int .i64 f, .int .i64 i, .int .i64 n] O H (fun v H' => ∃ a' c', v = .int .i64 (payE x f i n) ∧ But bp H H' ∧ Blk H' bp [.slice a' (tb (payX x f i n)).length c', .int .i64 (tot (payX x f i n))] 92 ∧ RowsT H' 138 5 a' (tb (payX x f i n)) ∧ (tb (payX x f i n)).length ≤ c' ∧ (a' = none → c' = 0)) := by
  refine fn_enter (A := [.pointer (some ⟨bp, 0, none⟩), .int .i64 f, .int .i64 i, .int .i64 n]) Try.func29 rfl rfl ?_
  have hX := But.refl bp H
  refine xc_seq ?_
  refine xc_region ?_
  refine xl_pure rfl rfl rfl (pv_assign (v := .int _ _) rfl rfl) ?_
  refine xl_nil ?_
  refine xthen_normal ?_
  refine xc_seq ?_
  refine xc_region ?_
  refine xl_pure rfl rfl rfl (pv_move (v := .int _ _) rfl rfl) ?_
  refine xl_heavy rfl rfl rfl (hv_call (g := 7) rfl rfl (c7 (2) (i)) rfl) ?_
  rintro v1_1 H1_1 ⟨hv1_1, rfl⟩
  rcases hv1_1 with ⟨ho1_1, rfl⟩ | ⟨ho1_1, rfl⟩
  · skip
    refine xl_pure rfl rfl rfl (pv_move (v := .tuple _) rfl rfl) ?_
    refine xl_pure rfl rfl rfl (pv_extract (v := .int _ _) rfl rfl rfl) ?_
    refine xl_pure rfl rfl rfl (pv_extract (v := .int _ _) rfl rfl rfl) ?_
    refine xl_pure rfl rfl rfl (pv_assign (v := .int _ _) rfl rfl) ?_
    refine xl_pure rfl rfl rfl (pv_assign (v := .int _ _) rfl rfl) ?_
    refine xl_nil ?_
    refine xthen_normal ?_
    refine xc_seq ?_
    refine xc_seq ?_
    refine xc_region ?_
    refine xl_pure rfl rfl rfl (pv_move (v := .int _ _) rfl rfl) ?_
    refine xl_ndec rfl rfl rfl (pv_neq rfl rfl rfl) (fun h2_1 => ?_) (fun h2_1 => ?_)
    · skip
      refine xl_nil ?_
      refine xthen_normal ?_
      refine xc_cond_f rfl ?_
      refine xc_skip ?_
      refine xthen_normal ?_
      refine xc_seq ?_
      refine xc_region ?_
      refine xl_pure rfl rfl rfl (pv_move (v := .pointer _) rfl rfl) ?_
      refine xl_pure rfl rfl rfl (pv_move (v := .int _ _) rfl rfl) ?_
      refine xl_heavy rfl rfl rfl (hv_call (g := 67) rfl rfl (c67 (x := x) mp hR hc hna (by omega) hg (f)) rfl) ?_
      rintro v4_2 H4_2 ⟨hv4_2, hE4_2⟩
      have mp := mp.ext hE4_2
      have hR := hR.ext hE4_2
      have hX := hX.transE hE4_2
      rcases hv4_2 with ⟨hh4_2, rfl⟩ | ⟨hh4_2, rfl⟩
      · skip
        refine xl_pure rfl rfl rfl (pv_move (v := .tuple _) rfl rfl) ?_
        refine xl_pure rfl rfl rfl (pv_extract (v := .int _ _) rfl rfl rfl) ?_
        refine xl_pure rfl rfl rfl (pv_extract (v := .int _ _) rfl rfl rfl) ?_
        refine xl_pure rfl rfl rfl (pv_assign (v := .int _ _) rfl rfl) ?_
        refine xl_pure rfl rfl rfl (pv_assign (v := .int _ _) rfl rfl) ?_
        refine xl_nil ?_
        refine xthen_normal ?_
        refine xc_seq ?_
        refine xc_block ?_
        refine xc_seq ?_
        refine xc_region ?_
        refine xl_pure rfl rfl rfl (pv_move (v := .int _ _) rfl rfl) ?_
        refine xl_ndec rfl rfl rfl (pv_neq rfl rfl rfl) (fun h5_1 => ?_) (fun h5_1 => ?_)
        · skip
          refine xl_pure rfl rfl rfl (pv_assign (v := .bool _) rfl rfl) ?_
          refine xl_nil ?_
          refine xthen_normal ?_
          refine xc_cond_f rfl ?_
          refine xc_seq ?_
          refine xc_region ?_
          refine xl_pure rfl rfl rfl (pv_move (v := .int _ _) rfl rfl) ?_
          refine xl_dec rfl rfl rfl (pv_lss rfl rfl rfl) (fun h7_1 => ?_) (fun h7_1 => ?_)
          · skip
            refine xl_pure rfl rfl rfl (pv_assign (v := .bool _) rfl rfl) ?_
            refine xl_nil ?_
            refine xthen_normal ?_
            refine xc_cond_t rfl ?_
            refine xc_seq ?_
            refine xc_region ?_
            refine xl_pure rfl rfl rfl (pv_assign (v := .int _ _) rfl rfl) ?_
            refine xl_nil ?_
            refine xthen_normal ?_
            refine xc_ret ?_
            refine xblock_ret ?_
            refine xthen_ret ?_
            refine fin_ret (res1 (v := .int _ _) rfl rfl) ?_
            obtain ⟨e1, e2⟩ := pay_arg (n := n) ho1_1 hh4_2 (by omega)
            exact ⟨a, c, by rw [e1], hX, by rw [e2]; exact mp, by rw [e2]; exact hR, by rw [e2]; exact hc, hna⟩
          · skip
            refine xl_pure rfl rfl rfl (pv_assign (v := .bool _) rfl rfl) ?_
            refine xl_nil ?_
            refine xthen_normal ?_
            refine xc_cond_f rfl ?_
            refine xc_seq ?_
            refine xc_region ?_
            refine xl_pure rfl rfl rfl (pv_move (v := .int _ _) rfl rfl) ?_
            refine xl_pure rfl rfl rfl (pv_move (v := .int _ _) rfl rfl) ?_
            refine xl_dec rfl rfl rfl (pv_lss rfl rfl rfl) (fun h9_2 => ?_) (fun h9_2 => ?_)
            · skip
              refine xl_pure rfl rfl rfl (pv_assign (v := .bool _) rfl rfl) ?_
              refine xl_nil ?_
              refine xthen_normal ?_
              refine xc_cond_t rfl ?_
              refine xc_seq ?_
              refine xc_region ?_
              refine xl_pure rfl rfl rfl (pv_assign (v := .int _ _) rfl rfl) ?_
              refine xl_nil ?_
              refine xthen_normal ?_
              refine xc_ret ?_
              refine xblock_ret ?_
              refine xthen_ret ?_
              refine fin_ret (res1 (v := .int _ _) rfl rfl) ?_
              obtain ⟨e1, e2⟩ := pay_funds (n := n) ho1_1 hh4_2 (by omega) (by omega)
              exact ⟨a, c, by rw [e1], hX, by rw [e2]; exact mp, by rw [e2]; exact hR, by rw [e2]; exact hc, hna⟩
            · skip
              refine xl_pure rfl rfl rfl (pv_assign (v := .bool _) rfl rfl) ?_
              refine xl_nil ?_
              refine xthen_normal ?_
              refine xc_cond_f rfl ?_
              refine xc_skip ?_
              refine xblock_normal ?_
              refine xthen_normal ?_
              refine xc_seq ?_
              obtain ⟨hgo, hlo2, hto⟩ := goo_open (o := owN 2 i) hg
              have hlo : (tb (openX x (owN 2 i))).length < 1000000 := by rw [tb_len] at hl ⊢; omega
              refine xc_region ?_
              refine xl_pure rfl rfl rfl (pv_move (v := .pointer _) rfl rfl) ?_
              refine xl_pure rfl rfl rfl (pv_move (v := .int _ _) rfl rfl) ?_
              refine xl_heavy rfl rfl rfl (hv_call (g := 41) rfl rfl (c41 mp hR hc hna (by omega) hg (owN 2 i)) rfl) ?_
              rintro v11_2 H11_2 ⟨a11_2, c11_2, rfl, hB11_2, hT11_2, hR11_2, hc11_2, hna11_2⟩
              have hR := hR.offT mp hB11_2 (by first | rfl | assumption)
              have hX := hX.trans hB11_2
              have mp := hT11_2
              refine xl_nil ?_
              refine xthen_normal ?_
              refine xc_seq ?_
              refine xc_region ?_
              refine xl_pure rfl rfl rfl (pv_move (v := .pointer _) rfl rfl) ?_
              refine xl_pure rfl rfl rfl (pv_move (v := .int _ _) rfl rfl) ?_
              refine xl_pure rfl rfl rfl (pv_move (v := .int _ _) rfl rfl) ?_
              refine xl_pure rfl rfl rfl (pv_move (v := .int _ _) rfl rfl) ?_
              refine xl_heavy rfl rfl rfl (hv_call (g := 68) rfl rfl (c68 mp hR11_2 hc11_2 hna11_2 hlo hgo f (owN 2 i) n) rfl) ?_
              rintro v12_4 H12_4 ⟨a12_4, c12_4, rfl, hB12_4, hT12_4, hR12_4, hc12_4, hna12_4⟩
              have hR := hR.offT mp hB12_4 (by first | rfl | assumption)
              have hR11_2 := hR11_2.offT mp hB12_4 (by first | rfl | assumption)
              have hX := hX.trans hB12_4
              have mp := hT12_4
              refine xl_pure rfl rfl rfl (pv_assign (v := .int _ _) rfl rfl) ?_
              refine xl_nil ?_
              refine xthen_normal ?_
              refine xc_ret ?_
              refine fin_ret (res1 (v := .int _ _) rfl rfl) ?_
              obtain ⟨e1, e2⟩ := pay_go (n := n) ho1_1 hh4_2 (by omega) (by omega)
              exact ⟨_, _, by rw [e1], hX, by rw [e2]; exact mp, by rw [e2]; exact hR12_4, by rw [e2]; exact hc12_4, hna12_4⟩
        · exact absurd (by decide) h5_1
      · skip
        refine xl_pure rfl rfl rfl (pv_move (v := .tuple _) rfl rfl) ?_
        refine xl_pure rfl rfl rfl (pv_extract (v := .int _ _) rfl rfl rfl) ?_
        refine xl_pure rfl rfl rfl (pv_extract (v := .int _ _) rfl rfl rfl) ?_
        refine xl_pure rfl rfl rfl (pv_assign (v := .int _ _) rfl rfl) ?_
        refine xl_pure rfl rfl rfl (pv_assign (v := .int _ _) rfl rfl) ?_
        refine xl_nil ?_
        refine xthen_normal ?_
        refine xc_seq ?_
        refine xc_block ?_
        refine xc_seq ?_
        refine xc_region ?_
        refine xl_pure rfl rfl rfl (pv_move (v := .int _ _) rfl rfl) ?_
        refine xl_ndec rfl rfl rfl (pv_neq rfl rfl rfl) (fun h5_1 => ?_) (fun h5_1 => ?_)
        · exact absurd h5_1 (by decide)
        · skip
          refine xl_pure rfl rfl rfl (pv_assign (v := .bool _) rfl rfl) ?_
          refine xl_nil ?_
          refine xthen_normal ?_
          refine xc_cond_t rfl ?_
          refine xc_seq ?_
          refine xc_region ?_
          refine xl_pure rfl rfl rfl (pv_move (v := .int _ _) rfl rfl) ?_
          refine xl_pure rfl rfl rfl (pv_assign (v := .int _ _) rfl rfl) ?_
          refine xl_nil ?_
          refine xthen_normal ?_
          refine xc_ret ?_
          refine xblock_ret ?_
          refine xthen_ret ?_
          refine fin_ret (res1 (v := .int _ _) rfl rfl) ?_
          obtain ⟨e1, e2⟩ := pay_none (n := n) ho1_1 hh4_2
          exact ⟨a, c, by rw [e1], hX, by rw [e2]; exact mp, by rw [e2]; exact hR, by rw [e2]; exact hc, hna⟩
    · exact absurd (by decide) h2_1
  · skip
    refine xl_pure rfl rfl rfl (pv_move (v := .tuple _) rfl rfl) ?_
    refine xl_pure rfl rfl rfl (pv_extract (v := .int _ _) rfl rfl rfl) ?_
    refine xl_pure rfl rfl rfl (pv_extract (v := .int _ _) rfl rfl rfl) ?_
    refine xl_pure rfl rfl rfl (pv_assign (v := .int _ _) rfl rfl) ?_
    refine xl_pure rfl rfl rfl (pv_assign (v := .int _ _) rfl rfl) ?_
    refine xl_nil ?_
    refine xthen_normal ?_
    refine xc_seq ?_
    refine xc_seq ?_
    refine xc_region ?_
    refine xl_pure rfl rfl rfl (pv_move (v := .int _ _) rfl rfl) ?_
    refine xl_ndec rfl rfl rfl (pv_neq rfl rfl rfl) (fun h2_1 => ?_) (fun h2_1 => ?_)
    · exact absurd h2_1 (by decide)
    · skip
      refine xl_nil ?_
      refine xthen_normal ?_
      refine xc_cond_t rfl ?_
      refine xc_seq ?_
      refine xc_region ?_
      refine xl_pure rfl rfl rfl (pv_move (v := .int _ _) rfl rfl) ?_
      refine xl_pure rfl rfl rfl (pv_assign (v := .int _ _) rfl rfl) ?_
      refine xl_nil ?_
      refine xthen_normal ?_
      refine xc_ret ?_
      refine xthen_ret ?_
      refine fin_ret (res1 (v := .int _ _) rfl rfl) ?_
      obtain ⟨e1, e2⟩ := pay_no (x := x) (f := f) (n := n) ho1_1
      exact ⟨a, c, by rw [e1], hX, by rw [e2]; exact mp, by rw [e2]; exact hR, by rw [e2]; exact hc, hna⟩

theorem c27 {O : Outer} {H : Heap} {bp c : Nat} {a : Option Addr} {x : List (List Int)} (mp : Blk H bp [.slice a (tb x).length c, .int .i64 (tot x)] 92) (hR : RowsT H 138 5 a (tb x)) (hc : (tb x).length ≤ c) (hna : a = none → c = 0) (hl : (tb x).length < 1000000) (hg : Goo x) (i : Int) {ap : Option Addr} {cp : Nat} {P : List (List Int)} (hP : RowsO H bp ap 3 P) (hPl : P.length ≤ 1000) :
    FnC Try.prog 27 #[.pointer (some ⟨bp, 0, none⟩), .int .i64 i, .slice ap P.length cp] O H (fun v H' => ∃ a' c', v = .int .i64 (poE x i P) ∧ But bp H H' ∧ Blk H' bp [.slice a' (tb (poX x i P)).length c', .int .i64 (tot (poX x i P))] 92 ∧ RowsT H' 138 5 a' (tb (poX x i P)) ∧ (tb (poX x i P)).length ≤ c' ∧ (a' = none → c' = 0)) := by
  refine fn_enter (A := [.pointer (some ⟨bp, 0, none⟩), .int .i64 i, .slice ap P.length cp]) Try.func27 rfl rfl ?_
  have hX := But.refl bp H
  refine xc_seq ?_
  refine xc_region ?_
  refine xl_pure rfl rfl rfl (pv_assign (v := .int _ _) rfl rfl) ?_
  refine xl_nil ?_
  refine xthen_normal ?_
  refine xc_seq ?_
  refine xc_region ?_
  refine xl_pure rfl rfl rfl (pv_move (v := .int _ _) rfl rfl) ?_
  refine xl_heavy rfl rfl rfl (hv_call (g := 7) rfl rfl (c7 (2) (i)) rfl) ?_
  rintro v1_1 H1_1 ⟨hv1_1, rfl⟩
  rcases hv1_1 with ⟨ho1_1, rfl⟩ | ⟨ho1_1, rfl⟩
  · skip
    refine xl_pure rfl rfl rfl (pv_move (v := .tuple _) rfl rfl) ?_
    refine xl_pure rfl rfl rfl (pv_extract (v := .int _ _) rfl rfl rfl) ?_
    refine xl_pure rfl rfl rfl (pv_extract (v := .int _ _) rfl rfl rfl) ?_
    refine xl_pure rfl rfl rfl (pv_assign (v := .int _ _) rfl rfl) ?_
    refine xl_pure rfl rfl rfl (pv_assign (v := .int _ _) rfl rfl) ?_
    refine xl_nil ?_
    refine xthen_normal ?_
    refine xc_seq ?_
    refine xc_seq ?_
    refine xc_region ?_
    refine xl_pure rfl rfl rfl (pv_move (v := .int _ _) rfl rfl) ?_
    refine xl_ndec rfl rfl rfl (pv_neq rfl rfl rfl) (fun h2_1 => ?_) (fun h2_1 => ?_)
    · skip
      refine xl_pure rfl rfl rfl (pv_move (v := .bool _) rfl rfl) ?_
      refine xl_pure rfl rfl rfl (pv_move (v := .pointer _) rfl rfl) ?_
      refine xl_pure rfl rfl rfl (pv_eql_pn rfl rfl rfl) ?_
      refine xl_pure rfl rfl rfl (pv_pick_f (v := .bool _) rfl rfl rfl) ?_
      refine xl_nil ?_
      refine xthen_normal ?_
      refine xc_cond_f rfl ?_
      refine xc_skip ?_
      refine xthen_normal ?_
      refine xc_seq ?_
      refine xc_region ?_
      refine xl_pure rfl rfl rfl (pv_move (v := .pointer _) rfl rfl) ?_
      refine xl_pure rfl rfl rfl (pv_move (v := .int _ _) rfl rfl) ?_
      refine xl_heavy rfl rfl rfl (hv_call (g := 33) rfl rfl (c33 mp hR hc hna hl hg i) rfl) ?_
      rintro v4_2 H4_2 ⟨rfl, hE4_2⟩
      have mp := mp.ext hE4_2
      have hR := hR.ext hE4_2
      have hX := hX.transE hE4_2
      refine xl_pure rfl rfl rfl (pv_assign (v := .int _ _) rfl rfl) ?_
      refine xl_nil ?_
      refine xthen_normal ?_
      refine xc_seq ?_
      refine xc_seq ?_
      refine xc_region ?_
      refine xl_pure rfl rfl rfl (pv_move (v := .slice _ _ _) rfl rfl) ?_
      refine xl_pure rfl rfl rfl (pv_len_l rfl rfl) ?_
      refine xl_pure rfl rfl rfl (pv_move (v := .int _ _) rfl rfl) ?_
      refine xl_nil ?_
      refine xthen_normal ?_
      refine xc_block ?_
      refine xc_loop (τ := Nat) (fun t => [(0, .pointer (some ⟨bp, 0, none⟩)), (2, .slice ap P.length cp), (7, .int .i64 (owN 2 i)), (9, .int .i64 (poL x i P t)), (32, .slice ap P.length cp), (33, .int .i64 (P.length : Nat)), (34, .int .i64 (t : Nat))]) (fun t H' => (t ≤ P.length) ∧ (PoA x i P t) ∧ (Blk H' bp [.slice a (tb x).length c, .int .i64 (tot x)] 92) ∧ (RowsT H' 138 5 a (tb x)) ∧ (But bp H H')) (fun t H' => P.length - t) 0 ?_ ?_ ?_
      · exact ⟨rfl, rfl, rfl, iv poL_zero.symm, rfl, rfl, rfl, trivial⟩
      · skip
        exact ⟨Nat.zero_le _, fun k hk => absurd hk (by omega), mp, hR, hX⟩
      · intro σ
        clear hX mp hR
        rintro j Hl6 ⟨hj, hpa, mp, hR, hX⟩
        replace hj : j ≤ P.length := hj
        replace hpa : PoA x i P j := hpa
        replace mp : Blk Hl6 bp [.slice a (tb x).length c, .int .i64 (tot x)] 92 := mp
        replace hR : RowsT Hl6 138 5 a (tb x) := hR
        replace hX : But bp H Hl6 := hX
        obtain ⟨bl, ofl, hPe⟩ := (hP.but hX).at'
        have hpl := poA_le hg hj hpa
        show XC _ _ _ (upds σ [(0, .pointer (some ⟨bp, 0, none⟩)), (2, .slice ap P.length cp), (7, .int .i64 (owN 2 i)), (9, .int .i64 (poL x i P j)), (32, .slice ap P.length cp), (33, .int .i64 (P.length : Nat)), (34, .int .i64 (j : Nat))]) _
        refine xc_seq ?_
        refine xc_region ?_
        refine xl_dec rfl rfl rfl (pv_lss rfl rfl rfl) (fun h6_0 => ?_) (fun h6_0 => ?_)
        · skip
          refine xl_nil ?_
          refine xthen_normal ?_
          refine xc_seq ?_
          refine xc_cond_t rfl ?_
          refine xc_skip ?_
          refine xthen_normal ?_
          refine xc_seq ?_
          refine xc_block ?_
          refine xc_seq ?_
          have hr3 := hP.rows.1.get (show j < P.length by omega)
          refine xc_region ?_
          refine xl_pure rfl rfl rfl (pv_indexAddr_l rfl (sl_eq (hPe (by omega)).1) rfl (by omega)) ?_
          refine xl_light rfl rfl rfl (lv_load (v := .agg _) rfl rfl (by exact ld_row' (hPe (by omega)).2 hP.rows.1 (by omega))) ?_
          refine xl_heavy rfl rfl rfl (hv_alloc rfl rfl) ?_
          rintro v7_2 H7_2 ⟨b7_2, rfl, hN7_2⟩
          have gb7_2 := hX.fresh hN7_2
          have nmp_7_2 := mp.apart hN7_2
          have mp := mp.ext hN7_2.ext
          have hR := hR.ext hN7_2.ext
          have hX := hX.transE hN7_2.ext
          have m7_2 := hN7_2.blk
          refine xl_store rfl rfl (hv_storeA (vs := ints (gr P j)) rfl rfl rfl (m7_2) (ints_ten hr3) (by rfl) (ints_one _)) ?_
          rintro v7_3 H7_3 ⟨hU7_3, hZ7_3⟩
          have mp := mp.off hU7_3.but (by first | exact nmp_7_2 | exact ⟨mp.ne m7_2 rfl⟩ | exact ⟨mp.ne m7_2 (by assumption)⟩ | exact ⟨Ne.symm (m7_2.ne mp (by assumption))⟩)
          have hR := hR.offT m7_2 hU7_3.but (by first | rfl | assumption)
          have hX := hX.upd hU7_3.but gb7_2
          have m7_2 := hU7_3.blk
          refine xl_nil ?_
          refine xthen_normal ?_
          refine xc_seq ?_
          refine xc_seq ?_
          refine xc_region ?_
          refine xl_pure rfl rfl rfl (pv_fieldAddr rfl rfl) ?_
          refine xl_light rfl rfl rfl (lv_load (v := .int _ _) rfl rfl (by exact ld_get (i := 0) m7_2 (by omega))) ?_
          refine xl_ndec rfl rfl rfl (pv_neq rfl rfl rfl) (fun h8_2 => ?_) (fun h8_2 => ?_)
          · skip
            refine xl_pure rfl rfl rfl (pv_move (v := .bool _) rfl rfl) ?_
            refine xl_pure rfl rfl rfl (pv_fieldAddr rfl rfl) ?_
            refine xl_light rfl rfl rfl (lv_load (v := .int _ _) rfl rfl (by exact ld_get (i := 2) m7_2 (by omega))) ?_
            refine xl_dec rfl rfl rfl (pv_lss rfl rfl rfl) (fun h8_6 => ?_) (fun h8_6 => ?_)
            · skip
              refine xl_pure rfl rfl rfl (pv_pick_f (v := .bool _) rfl rfl rfl) ?_
              refine xl_pure rfl rfl rfl (pv_move (v := .bool _) rfl rfl) ?_
              refine xl_skip rfl rfl rfl ?_
              refine xl_skip rfl rfl rfl ?_
              refine xl_skip rfl rfl rfl ?_
              refine xl_skip rfl rfl rfl ?_
              refine xl_pure rfl rfl rfl (pv_pick_t (v := .bool _) rfl rfl rfl) ?_
              refine xl_nil ?_
              refine xthen_normal ?_
              refine xc_cond_t rfl ?_
              refine xc_seq ?_
              refine xc_region ?_
              refine xl_pure rfl rfl rfl (pv_assign (v := .int _ _) rfl rfl) ?_
              refine xl_nil ?_
              refine xthen_normal ?_
              refine xc_ret ?_
              refine xthen_ret ?_
              refine xblock_ret ?_
              refine xthen_ret ?_
              refine xthen_ret ?_
              refine xblock_ret ?_
              refine xthen_ret ?_
              refine fin_ret (res1 (v := .int _ _) rfl rfl) ?_
              obtain ⟨e1, e2⟩ := po_no (x := x) (i := i) (P := P) (fun h => by have h2 := h.2.1 j (by omega); omega)
              exact ⟨a, c, by rw [e1], hX, by rw [e2]; exact mp, by rw [e2]; exact hR, by rw [e2]; exact hc, hna⟩
            · skip
              refine xl_pure rfl rfl rfl (pv_pick_f (v := .bool _) rfl rfl rfl) ?_
              refine xl_pure rfl rfl rfl (pv_move (v := .bool _) rfl rfl) ?_
              refine xl_pure rfl rfl rfl (pv_fieldAddr rfl rfl) ?_
              refine xl_light rfl rfl rfl (lv_load (v := .int _ _) rfl rfl (by exact ld_get (i := 2) m7_2 (by omega))) ?_
              refine xl_pure rfl rfl rfl (pv_move (v := .int _ _) rfl rfl) ?_
              refine xl_dec rfl rfl rfl (pv_gtr rfl rfl rfl) (fun h8_12 => ?_) (fun h8_12 => ?_)
              · skip
                refine xl_pure rfl rfl rfl (pv_pick_f (v := .bool _) rfl rfl rfl) ?_
                refine xl_nil ?_
                refine xthen_normal ?_
                refine xc_cond_t rfl ?_
                refine xc_seq ?_
                refine xc_region ?_
                refine xl_pure rfl rfl rfl (pv_assign (v := .int _ _) rfl rfl) ?_
                refine xl_nil ?_
                refine xthen_normal ?_
                refine xc_ret ?_
                refine xthen_ret ?_
                refine xblock_ret ?_
                refine xthen_ret ?_
                refine xthen_ret ?_
                refine xblock_ret ?_
                refine xthen_ret ?_
                refine fin_ret (res1 (v := .int _ _) rfl rfl) ?_
                obtain ⟨e1, e2⟩ := po_no (x := x) (i := i) (P := P) (fun h => by have h2 := h.2.1 j (by omega); omega)
                exact ⟨a, c, by rw [e1], hX, by rw [e2]; exact mp, by rw [e2]; exact hR, by rw [e2]; exact hc, hna⟩
              · skip
                refine xl_pure rfl rfl rfl (pv_pick_f (v := .bool _) rfl rfl rfl) ?_
                refine xl_nil ?_
                refine xthen_normal ?_
                refine xc_cond_f rfl ?_
                refine xc_skip ?_
                refine xthen_normal ?_
                refine xc_region ?_
                refine xl_pure rfl rfl rfl (pv_move (v := .int _ _) rfl rfl) ?_
                refine xl_pure rfl rfl rfl (pv_fieldAddr rfl rfl) ?_
                refine xl_light rfl rfl rfl (lv_load (v := .int _ _) rfl rfl (by exact ld_get (i := 2) m7_2 (by omega))) ?_
                refine xl_pure rfl rfl rfl (pv_sub rfl rfl rfl (fit_i64 (by omega))) ?_
                refine xl_pure rfl rfl rfl (pv_assign (v := .int _ _) rfl rfl) ?_
                refine xl_nil ?_
                refine xblock_normal ?_
                refine xthen_normal ?_
                refine xc_region ?_
                refine xl_pure rfl rfl rfl (pv_add rfl rfl rfl (fit_i64 (by omega))) ?_
                refine xl_pure rfl rfl rfl (pv_move (v := .int _ _) rfl rfl) ?_
                refine xl_nil ?_
                refine xthen_normal ?_
                exact ⟨j + 1, ⟨rfl, rfl, rfl, iv (poL_next (by omega)).symm, rfl, rfl, rfl, trivial⟩, ⟨by (try simp only); omega, all_next hpa ⟨by omega, by omega, by omega⟩, mp, hR, hX⟩, by (try simp only); omega⟩
          · skip
            refine xl_pure rfl rfl rfl (pv_move (v := .bool _) rfl rfl) ?_
            refine xl_skip rfl rfl rfl ?_
            refine xl_skip rfl rfl rfl ?_
            refine xl_skip rfl rfl rfl ?_
            refine xl_pure rfl rfl rfl (pv_pick_t (v := .bool _) rfl rfl rfl) ?_
            refine xl_pure rfl rfl rfl (pv_move (v := .bool _) rfl rfl) ?_
            refine xl_skip rfl rfl rfl ?_
            refine xl_skip rfl rfl rfl ?_
            refine xl_skip rfl rfl rfl ?_
            refine xl_skip rfl rfl rfl ?_
            refine xl_pure rfl rfl rfl (pv_pick_t (v := .bool _) rfl rfl rfl) ?_
            refine xl_nil ?_
            refine xthen_normal ?_
            refine xc_cond_t rfl ?_
            refine xc_seq ?_
            refine xc_region ?_
            refine xl_pure rfl rfl rfl (pv_assign (v := .int _ _) rfl rfl) ?_
            refine xl_nil ?_
            refine xthen_normal ?_
            refine xc_ret ?_
            refine xthen_ret ?_
            refine xblock_ret ?_
            refine xthen_ret ?_
            refine xthen_ret ?_
            refine xblock_ret ?_
            refine xthen_ret ?_
            refine fin_ret (res1 (v := .int _ _) rfl rfl) ?_
            obtain ⟨e1, e2⟩ := po_no (x := x) (i := i) (P := P) (fun h => by have h2 := h.2.1 j (by omega); omega)
            exact ⟨a, c, by rw [e1], hX, by rw [e2]; exact mp, by rw [e2]; exact hR, by rw [e2]; exact hc, hna⟩
        · skip
          refine xl_nil ?_
          refine xthen_normal ?_
          refine xc_seq ?_
          refine xc_cond_f rfl ?_
          refine xc_exit ?_
          refine xthen_exit ?_
          refine xthen_exit ?_
          refine xblock_same ?_
          refine xthen_normal ?_
          refine xc_seq ?_
          refine xc_seq ?_
          refine xc_region ?_
          refine xl_pure rfl rfl rfl (pv_move (v := .int _ _) rfl rfl) ?_
          refine xl_ndec rfl rfl rfl (pv_neq rfl rfl rfl) (fun h12_1 => ?_) (fun h12_1 => ?_)
          · skip
            refine xl_nil ?_
            refine xthen_normal ?_
            refine xc_cond_f rfl ?_
            refine xc_skip ?_
            refine xthen_normal ?_
            refine xc_seq ?_
            refine xc_seq ?_
            obtain rfl : j = P.length := by omega
            have hpc : PoC x i P := ⟨ho1_1, hpa, by omega⟩
            refine xc_region ?_
            refine xl_pure rfl rfl rfl (pv_move (v := .slice _ _ _) rfl rfl) ?_
            refine xl_pure rfl rfl rfl (pv_len_l rfl rfl) ?_
            refine xl_pure rfl rfl rfl (pv_move (v := .int _ _) rfl rfl) ?_
            refine xl_nil ?_
            refine xthen_normal ?_
            refine xc_block ?_
            refine xc_loop (τ := Nat) (fun t => [(0, .pointer (some ⟨bp, 0, none⟩)), (2, .slice ap P.length cp), (7, .int .i64 (owN 2 i)), (59, .slice ap P.length cp), (60, .int .i64 (P.length : Nat)), (61, .int .i64 (t : Nat))]) (fun t H' => (t ≤ P.length) ∧ (PoB x P t) ∧ (Blk H' bp [.slice a (tb x).length c, .int .i64 (tot x)] 92) ∧ (RowsT H' 138 5 a (tb x)) ∧ (But bp H H')) (fun t H' => P.length - t) 0 ?_ ?_ ?_
            · exact ⟨rfl, rfl, rfl, rfl, rfl, rfl, trivial⟩
            · skip
              exact ⟨Nat.zero_le _, fun k hk => absurd hk (by omega), mp, hR, hX⟩
            · intro σ
              clear hX mp hR
              rintro j Hl15 ⟨hj, hpb, mp, hR, hX⟩
              replace hj : j ≤ P.length := hj
              replace hpb : PoB x P j := hpb
              replace mp : Blk Hl15 bp [.slice a (tb x).length c, .int .i64 (tot x)] 92 := mp
              replace hR : RowsT Hl15 138 5 a (tb x) := hR
              replace hX : But bp H Hl15 := hX
              obtain ⟨bl, ofl, hPe⟩ := (hP.but hX).at'
              show XC _ _ _ (upds σ [(0, .pointer (some ⟨bp, 0, none⟩)), (2, .slice ap P.length cp), (7, .int .i64 (owN 2 i)), (59, .slice ap P.length cp), (60, .int .i64 (P.length : Nat)), (61, .int .i64 (j : Nat))]) _
              refine xc_seq ?_
              refine xc_region ?_
              refine xl_dec rfl rfl rfl (pv_lss rfl rfl rfl) (fun h15_0 => ?_) (fun h15_0 => ?_)
              · skip
                refine xl_nil ?_
                refine xthen_normal ?_
                refine xc_seq ?_
                refine xc_cond_t rfl ?_
                refine xc_skip ?_
                refine xthen_normal ?_
                refine xc_seq ?_
                refine xc_block ?_
                refine xc_seq ?_
                have hr3 := hP.rows.1.get (show j < P.length by omega)
                refine xc_region ?_
                refine xl_pure rfl rfl rfl (pv_indexAddr_l rfl (sl_eq (hPe (by omega)).1) rfl (by omega)) ?_
                refine xl_light rfl rfl rfl (lv_load (v := .agg _) rfl rfl (by exact ld_row' (hPe (by omega)).2 hP.rows.1 (by omega))) ?_
                refine xl_heavy rfl rfl rfl (hv_alloc rfl rfl) ?_
                rintro v16_2 H16_2 ⟨b16_2, rfl, hN16_2⟩
                have gb16_2 := hX.fresh hN16_2
                have nmp_16_2 := mp.apart hN16_2
                have mp := mp.ext hN16_2.ext
                have hR := hR.ext hN16_2.ext
                have hX := hX.transE hN16_2.ext
                have m16_2 := hN16_2.blk
                refine xl_store rfl rfl (hv_storeA (vs := ints (gr P j)) rfl rfl rfl (m16_2) (ints_ten hr3) (by rfl) (ints_one _)) ?_
                rintro v16_3 H16_3 ⟨hU16_3, hZ16_3⟩
                have mp := mp.off hU16_3.but (by first | exact nmp_16_2 | exact ⟨mp.ne m16_2 rfl⟩ | exact ⟨mp.ne m16_2 (by assumption)⟩ | exact ⟨Ne.symm (m16_2.ne mp (by assumption))⟩)
                have hR := hR.offT m16_2 hU16_3.but (by first | rfl | assumption)
                have hX := hX.upd hU16_3.but gb16_2
                have m16_2 := hU16_3.blk
                refine xl_nil ?_
                refine xthen_normal ?_
                refine xc_seq ?_
                refine xc_region ?_
                refine xl_pure rfl rfl rfl (pv_move (v := .pointer _) rfl rfl) ?_
                refine xl_pure rfl rfl rfl (pv_fieldAddr rfl rfl) ?_
                refine xl_light rfl rfl rfl (lv_load (v := .int _ _) rfl rfl (by exact ld_get (i := 1) m16_2 (by omega))) ?_
                refine xl_heavy rfl rfl rfl (hv_call (g := 67) rfl rfl (c67 (x := x) mp hR hc hna hl hg (((gr P j).getD 1 0))) rfl) ?_
                rintro v17_3 H17_3 ⟨hv17_3, hE17_3⟩
                have mp := mp.ext hE17_3
                have hR := hR.ext hE17_3
                have m16_2 := m16_2.ext hE17_3
                have hX := hX.transE hE17_3
                rcases hv17_3 with ⟨hh17_3, rfl⟩ | ⟨hh17_3, rfl⟩
                · skip
                  refine xl_pure rfl rfl rfl (pv_move (v := .tuple _) rfl rfl) ?_
                  refine xl_pure rfl rfl rfl (pv_extract (v := .int _ _) rfl rfl rfl) ?_
                  refine xl_pure rfl rfl rfl (pv_extract (v := .int _ _) rfl rfl rfl) ?_
                  refine xl_pure rfl rfl rfl (pv_assign (v := .int _ _) rfl rfl) ?_
                  refine xl_pure rfl rfl rfl (pv_assign (v := .int _ _) rfl rfl) ?_
                  refine xl_nil ?_
                  refine xthen_normal ?_
                  refine xc_seq ?_
                  refine xc_region ?_
                  refine xl_pure rfl rfl rfl (pv_move (v := .int _ _) rfl rfl) ?_
                  refine xl_ndec rfl rfl rfl (pv_neq rfl rfl rfl) (fun h18_1 => ?_) (fun h18_1 => ?_)
                  · skip
                    refine xl_nil ?_
                    refine xthen_normal ?_
                    refine xc_cond_f rfl ?_
                    refine xc_skip ?_
                    refine xblock_normal ?_
                    refine xthen_normal ?_
                    refine xc_region ?_
                    refine xl_pure rfl rfl rfl (pv_add rfl rfl rfl (fit_i64 (by omega))) ?_
                    refine xl_pure rfl rfl rfl (pv_move (v := .int _ _) rfl rfl) ?_
                    refine xl_nil ?_
                    refine xthen_normal ?_
                    exact ⟨j + 1, ⟨rfl, rfl, rfl, rfl, rfl, rfl, trivial⟩, ⟨by (try simp only); omega, all_next hpb hh17_3, mp, hR, hX⟩, by (try simp only); omega⟩
                  · exact absurd (by decide) h18_1
                · skip
                  refine xl_pure rfl rfl rfl (pv_move (v := .tuple _) rfl rfl) ?_
                  refine xl_pure rfl rfl rfl (pv_extract (v := .int _ _) rfl rfl rfl) ?_
                  refine xl_pure rfl rfl rfl (pv_extract (v := .int _ _) rfl rfl rfl) ?_
                  refine xl_pure rfl rfl rfl (pv_assign (v := .int _ _) rfl rfl) ?_
                  refine xl_pure rfl rfl rfl (pv_assign (v := .int _ _) rfl rfl) ?_
                  refine xl_nil ?_
                  refine xthen_normal ?_
                  refine xc_seq ?_
                  refine xc_region ?_
                  refine xl_pure rfl rfl rfl (pv_move (v := .int _ _) rfl rfl) ?_
                  refine xl_ndec rfl rfl rfl (pv_neq rfl rfl rfl) (fun h18_1 => ?_) (fun h18_1 => ?_)
                  · exact absurd h18_1 (by decide)
                  · skip
                    refine xl_nil ?_
                    refine xthen_normal ?_
                    refine xc_cond_t rfl ?_
                    refine xc_seq ?_
                    refine xc_region ?_
                    refine xl_pure rfl rfl rfl (pv_move (v := .int _ _) rfl rfl) ?_
                    refine xl_pure rfl rfl rfl (pv_assign (v := .int _ _) rfl rfl) ?_
                    refine xl_nil ?_
                    refine xthen_normal ?_
                    refine xc_ret ?_
                    refine xblock_ret ?_
                    refine xthen_ret ?_
                    refine xthen_ret ?_
                    refine xblock_ret ?_
                    refine xthen_ret ?_
                    refine fin_ret (res1 (v := .int _ _) rfl rfl) ?_
                    obtain ⟨e1, e2⟩ := po_none (x := x) (i := i) (P := P) hpc (fun h => by have h2 := h j (by omega); rw [h2] at hh17_3; cases hh17_3)
                    exact ⟨a, c, by rw [e1], hX, by rw [e2]; exact mp, by rw [e2]; exact hR, by rw [e2]; exact hc, hna⟩
              · skip
                refine xl_nil ?_
                refine xthen_normal ?_
                refine xc_seq ?_
                refine xc_cond_f rfl ?_
                refine xc_exit ?_
                refine xthen_exit ?_
                refine xthen_exit ?_
                refine xblock_same ?_
                refine xthen_normal ?_
                refine xc_seq ?_
                refine xc_seq ?_
                obtain rfl : j = P.length := by omega
                refine xc_region ?_
                refine xl_pure rfl rfl rfl (pv_move (v := .slice _ _ _) rfl rfl) ?_
                refine xl_pure rfl rfl rfl (pv_len_l rfl rfl) ?_
                refine xl_pure rfl rfl rfl (pv_move (v := .int _ _) rfl rfl) ?_
                refine xl_nil ?_
                refine xthen_normal ?_
                refine xc_block ?_
                refine xc_loop (τ := Nat × Option Addr × Nat) (fun t => [(0, .pointer (some ⟨bp, 0, none⟩)), (7, .int .i64 (owN 2 i)), (76, .slice ap P.length cp), (77, .int .i64 (P.length : Nat)), (78, .int .i64 (t.1 : Nat))]) (fun t H' => (t.1 ≤ P.length) ∧ (Blk H' bp [.slice t.2.1 (tb (poS x (owN 2 i) P t.1)).length t.2.2, .int .i64 (tot (poS x (owN 2 i) P t.1))] 92) ∧ (RowsT H' 138 5 t.2.1 (tb (poS x (owN 2 i) P t.1))) ∧ ((tb (poS x (owN 2 i) P t.1)).length ≤ t.2.2) ∧ (t.2.1 = none → t.2.2 = 0) ∧ (But bp H H')) (fun t H' => P.length - t.1) (0, a, c) ?_ ?_ ?_
                · exact ⟨rfl, rfl, rfl, rfl, rfl, trivial⟩
                · skip
                  exact ⟨Nat.zero_le _, mp, hR, hc, hna, hX⟩
                · intro σ
                  clear hX mp hR
                  rintro ⟨j, a1, c1⟩ Hl22 ⟨hj, mp, hR, hc1, hna1, hX⟩
                  replace hj : j ≤ P.length := hj
                  replace mp : Blk Hl22 bp [.slice a1 (tb (poS x (owN 2 i) P j)).length c1, .int .i64 (tot (poS x (owN 2 i) P j))] 92 := mp
                  replace hR : RowsT Hl22 138 5 a1 (tb (poS x (owN 2 i) P j)) := hR
                  replace hc1 : (tb (poS x (owN 2 i) P j)).length ≤ c1 := hc1
                  replace hna1 : a1 = none → c1 = 0 := hna1
                  replace hX : But bp H Hl22 := hX
                  obtain ⟨bl, ofl, hPe⟩ := (hP.but hX).at'
                  obtain ⟨hgj, hlj0⟩ := goo_poS (o := owN 2 i) (P := P) hg j
                  have hlj : (tb (poS x (owN 2 i) P j)).length < 1000000 := by rw [tb_len] at hl ⊢; omega
                  show XC _ _ _ (upds σ [(0, .pointer (some ⟨bp, 0, none⟩)), (7, .int .i64 (owN 2 i)), (76, .slice ap P.length cp), (77, .int .i64 (P.length : Nat)), (78, .int .i64 (j : Nat))]) _
                  refine xc_seq ?_
                  refine xc_region ?_
                  refine xl_dec rfl rfl rfl (pv_lss rfl rfl rfl) (fun h22_0 => ?_) (fun h22_0 => ?_)
                  · skip
                    refine xl_nil ?_
                    refine xthen_normal ?_
                    refine xc_seq ?_
                    refine xc_cond_t rfl ?_
                    refine xc_skip ?_
                    refine xthen_normal ?_
                    refine xc_seq ?_
                    refine xc_block ?_
                    refine xc_seq ?_
                    have hr3 := hP.rows.1.get (show j < P.length by omega)
                    refine xc_region ?_
                    refine xl_pure rfl rfl rfl (pv_indexAddr_l rfl (sl_eq (hPe (by omega)).1) rfl (by omega)) ?_
                    refine xl_light rfl rfl rfl (lv_load (v := .agg _) rfl rfl (by exact ld_row' (hPe (by omega)).2 hP.rows.1 (by omega))) ?_
                    refine xl_heavy rfl rfl rfl (hv_alloc rfl rfl) ?_
                    rintro v23_2 H23_2 ⟨b23_2, rfl, hN23_2⟩
                    have gb23_2 := hX.fresh hN23_2
                    have nmp_23_2 := mp.apart hN23_2
                    have mp := mp.ext hN23_2.ext
                    have hR := hR.ext hN23_2.ext
                    have hX := hX.transE hN23_2.ext
                    have m23_2 := hN23_2.blk
                    refine xl_store rfl rfl (hv_storeA (vs := ints (gr P j)) rfl rfl rfl (m23_2) (ints_ten hr3) (by rfl) (ints_one _)) ?_
                    rintro v23_3 H23_3 ⟨hU23_3, hZ23_3⟩
                    have mp := mp.off hU23_3.but (by first | exact nmp_23_2 | exact ⟨mp.ne m23_2 rfl⟩ | exact ⟨mp.ne m23_2 (by assumption)⟩ | exact ⟨Ne.symm (m23_2.ne mp (by assumption))⟩)
                    have hR := hR.offT m23_2 hU23_3.but (by first | rfl | assumption)
                    have hX := hX.upd hU23_3.but gb23_2
                    have m23_2 := hU23_3.blk
                    refine xl_nil ?_
                    refine xthen_normal ?_
                    refine xc_seq ?_
                    refine xc_region ?_
                    refine xl_pure rfl rfl rfl (pv_fieldAddr rfl rfl) ?_
                    refine xl_light rfl rfl rfl (lv_load (v := .int _ _) rfl rfl (by exact ld_get (i := 2) m23_2 (by omega))) ?_
                    refine xl_dec rfl rfl rfl (pv_gtr rfl rfl rfl) (fun h24_2 => ?_) (fun h24_2 => ?_)
                    · skip
                      refine xl_nil ?_
                      refine xthen_normal ?_
                      refine xc_cond_t rfl ?_
                      refine xc_region ?_
                      refine xl_pure rfl rfl rfl (pv_move (v := .pointer _) rfl rfl) ?_
                      refine xl_pure rfl rfl rfl (pv_move (v := .int _ _) rfl rfl) ?_
                      refine xl_pure rfl rfl rfl (pv_fieldAddr rfl rfl) ?_
                      refine xl_light rfl rfl rfl (lv_load (v := .int _ _) rfl rfl (by exact ld_get (i := 1) m23_2 (by omega))) ?_
                      refine xl_pure rfl rfl rfl (pv_fieldAddr rfl rfl) ?_
                      refine xl_light rfl rfl rfl (lv_load (v := .int _ _) rfl rfl (by exact ld_get (i := 2) m23_2 (by omega))) ?_
                      refine xl_heavy rfl rfl rfl (hv_call (g := 68) rfl rfl (c68 (x := (poS x (owN 2 i) P j)) mp hR hc1 hna1 hlj hgj (owN 2 i) ((gr P j).getD 1 0) ((gr P j).getD 2 0)) rfl) ?_
                      rintro v25_6 H25_6 ⟨a25_6, c25_6, rfl, hB25_6, hT25_6, hR25_6, hc25_6, hna25_6⟩
                      have hR := hR.offT mp hB25_6 (by first | rfl | assumption)
                      have m23_2 := m23_2.off hB25_6 (by first | exact nmp_23_2.symm | exact ⟨m23_2.ne mp rfl⟩ | exact ⟨m23_2.ne mp (by assumption)⟩ | exact ⟨Ne.symm (mp.ne m23_2 (by assumption))⟩)
                      have hX := hX.trans hB25_6
                      have mp := hT25_6
                      refine xl_nil ?_
                      refine xblock_normal ?_
                      refine xthen_normal ?_
                      refine xc_region ?_
                      refine xl_pure rfl rfl rfl (pv_add rfl rfl rfl (fit_i64 (by omega))) ?_
                      refine xl_pure rfl rfl rfl (pv_move (v := .int _ _) rfl rfl) ?_
                      refine xl_nil ?_
                      refine xthen_normal ?_
                      first
                        | exact ⟨(j + 1, _, _), ⟨rfl, rfl, rfl, rfl, rfl, trivial⟩, ⟨by (try simp only); omega, by rw [poS_go (by omega)]; exact mp, by rw [poS_go (by omega)]; exact hR25_6, by rw [poS_go (by omega)]; exact hc25_6, hna25_6, hX⟩, by (try simp only); omega⟩
                        | exact ⟨(j + 1, _, _), ⟨rfl, rfl, rfl, rfl, rfl, trivial⟩, ⟨by (try simp only); omega, by rw [poS_skip (by omega)]; exact mp, by rw [poS_skip (by omega)]; exact hR, by rw [poS_skip (by omega)]; exact hc1, hna1, hX⟩, by (try simp only); omega⟩
                    · skip
                      refine xl_nil ?_
                      refine xthen_normal ?_
                      refine xc_cond_f rfl ?_
                      refine xc_skip ?_
                      refine xblock_normal ?_
                      refine xthen_normal ?_
                      refine xc_region ?_
                      refine xl_pure rfl rfl rfl (pv_add rfl rfl rfl (fit_i64 (by omega))) ?_
                      refine xl_pure rfl rfl rfl (pv_move (v := .int _ _) rfl rfl) ?_
                      refine xl_nil ?_
                      refine xthen_normal ?_
                      first
                        | exact ⟨(j + 1, _, _), ⟨rfl, rfl, rfl, rfl, rfl, trivial⟩, ⟨by (try simp only); omega, by rw [poS_go (by omega)]; exact mp, by rw [poS_go (by omega)]; exact hR25_6, by rw [poS_go (by omega)]; exact hc25_6, hna25_6, hX⟩, by (try simp only); omega⟩
                        | exact ⟨(j + 1, _, _), ⟨rfl, rfl, rfl, rfl, rfl, trivial⟩, ⟨by (try simp only); omega, by rw [poS_skip (by omega)]; exact mp, by rw [poS_skip (by omega)]; exact hR, by rw [poS_skip (by omega)]; exact hc1, hna1, hX⟩, by (try simp only); omega⟩
                  · skip
                    refine xl_nil ?_
                    refine xthen_normal ?_
                    refine xc_seq ?_
                    refine xc_cond_f rfl ?_
                    refine xc_exit ?_
                    refine xthen_exit ?_
                    refine xthen_exit ?_
                    refine xblock_same ?_
                    refine xthen_normal ?_
                    refine xc_seq ?_
                    refine xc_region ?_
                    refine xl_pure rfl rfl rfl (pv_assign (v := .int _ _) rfl rfl) ?_
                    refine xl_nil ?_
                    refine xthen_normal ?_
                    refine xc_ret ?_
                    refine fin_ret (res1 (v := .int _ _) rfl rfl) ?_
                    obtain rfl : j = P.length := by omega
                    obtain ⟨e1, e2⟩ := po_go (x := x) (i := i) (P := P) hpc hpb
                    exact ⟨_, _, by rw [e1], hX, by rw [e2]; exact mp, by rw [e2]; exact hR, by rw [e2]; exact hc1, hna1⟩
          · skip
            refine xl_nil ?_
            refine xthen_normal ?_
            refine xc_cond_t rfl ?_
            refine xc_seq ?_
            refine xc_region ?_
            refine xl_pure rfl rfl rfl (pv_assign (v := .int _ _) rfl rfl) ?_
            refine xl_nil ?_
            refine xthen_normal ?_
            refine xc_ret ?_
            refine xthen_ret ?_
            refine fin_ret (res1 (v := .int _ _) rfl rfl) ?_
            obtain rfl : j = P.length := by omega
            obtain ⟨e1, e2⟩ := po_no (x := x) (i := i) (P := P) (fun h => h12_1 h.2.2)
            exact ⟨a, c, by rw [e1], hX, by rw [e2]; exact mp, by rw [e2]; exact hR, by rw [e2]; exact hc, hna⟩
    · exact absurd (by decide) h2_1
  · skip
    refine xl_pure rfl rfl rfl (pv_move (v := .tuple _) rfl rfl) ?_
    refine xl_pure rfl rfl rfl (pv_extract (v := .int _ _) rfl rfl rfl) ?_
    refine xl_pure rfl rfl rfl (pv_extract (v := .int _ _) rfl rfl rfl) ?_
    refine xl_pure rfl rfl rfl (pv_assign (v := .int _ _) rfl rfl) ?_
    refine xl_pure rfl rfl rfl (pv_assign (v := .int _ _) rfl rfl) ?_
    refine xl_nil ?_
    refine xthen_normal ?_
    refine xc_seq ?_
    refine xc_seq ?_
    refine xc_region ?_
    refine xl_pure rfl rfl rfl (pv_move (v := .int _ _) rfl rfl) ?_
    refine xl_ndec rfl rfl rfl (pv_neq rfl rfl rfl) (fun h2_1 => ?_) (fun h2_1 => ?_)
    · exact absurd h2_1 (by decide)
    · skip
      refine xl_pure rfl rfl rfl (pv_move (v := .bool _) rfl rfl) ?_
      refine xl_skip rfl rfl rfl ?_
      refine xl_skip rfl rfl rfl ?_
      refine xl_pure rfl rfl rfl (pv_pick_t (v := .bool _) rfl rfl rfl) ?_
      refine xl_nil ?_
      refine xthen_normal ?_
      refine xc_cond_t rfl ?_
      refine xc_seq ?_
      refine xc_region ?_
      refine xl_pure rfl rfl rfl (pv_assign (v := .int _ _) rfl rfl) ?_
      refine xl_nil ?_
      refine xthen_normal ?_
      refine xc_ret ?_
      refine xthen_ret ?_
      refine fin_ret (res1 (v := .int _ _) rfl rfl) ?_
      obtain ⟨e1, e2⟩ := po_no (x := x) (P := P) (fun h => ho1_1 h.1)
      exact ⟨a, c, by rw [e1], hX, by rw [e2]; exact mp, by rw [e2]; exact hR, by rw [e2]; exact hc, hna⟩
end Go.XG.Pu
