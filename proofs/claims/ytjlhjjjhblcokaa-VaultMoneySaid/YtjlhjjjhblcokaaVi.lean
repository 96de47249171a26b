/-
  Walks of the seat's functions over the logic XG: each function, what it computes. Printed by a program out of wip/walks.py.
-/
import Derived.Test.YtjlhjjjhblcokaaI
import Derived.Test.YtjlhjjjhblcokaaXs
import Derived.Test.YtjlhjjjhblcokaaTo
import Derived.Test.YtjlhjjjhblcokaaTa
import Derived.Test.YtjlhjjjhblcokaaTb
import Derived.Test.YtjlhjjjhblcokaaKb
import Derived.Test.YtjlhjjjhblcokaaBa
import Derived.Test.YtjlhjjjhblcokaaBb
import Derived.Test.YtjlhjjjhblcokaaBc
import Derived.Test.YtjlhjjjhblcokaaKp
import Derived.Test.YtjlhjjjhblcokaaUa
import Derived.Test.YtjlhjjjhblcokaaKv
import Derived.Test.YtjlhjjjhblcokaaXw
import Derived.Test.YtjlhjjjhblcokaaVa
import Derived.Test.YtjlhjjjhblcokaaVb
import Derived.Test.YtjlhjjjhblcokaaVc
import Derived.Test.YtjlhjjjhblcokaaVd
import Derived.Test.YtjlhjjjhblcokaaUb
import Derived.Test.YtjlhjjjhblcokaaUc
import Derived.Test.YtjlhjjjhblcokaaKw
namespace Go.XG.Pu
open Go.Proofs
set_option maxRecDepth 20000
set_option maxHeartbeats 4000000
theorem c34 {O : Outer} {H : Heap} {a : Option Addr} {c : Nat} {x : List (List Int)} (hx : RowsT H 122 2 a x) (hg : Goo x) (hl : x.length < 900000) (hc : x.length ≤ c) (i : Int) :
    FnC Try.prog 34 #[.slice a x.length c, .int .i64 i] O H (fun v H' => v = .int .i64 (monV x i) ∧ Ext H H') := by
  refine fn_enter (A := [.slice a x.length c, .int .i64 i]) Try.func34 rfl rfl ?_
  have hX := Ext.refl H
  refine xc_seq ?_
  refine xc_region ?_
  refine xl_pure rfl rfl rfl (pv_assign (v := .int _ _) rfl rfl) ?_
  refine xl_nil ?_
  refine xthen_normal ?_
  refine xc_seq ?_
  refine xc_region ?_
  refine xl_pure rfl rfl rfl (pv_move (v := .int _ _) rfl rfl) ?_
  refine xl_heavy rfl rfl rfl (hv_call (g := 8) rfl rfl (c8 (2) (i)) rfl) ?_
  rintro v1_1 H1_1 ⟨hv1_1, rfl⟩
  rcases hv1_1 with ⟨ho1_1, rfl⟩ | ⟨ho1_1, rfl⟩
  · skip
    refine xl_pure rfl rfl rfl (pv_move (v := .tuple _) rfl rfl) ?_
    refine xl_pure rfl rfl rfl (pv_extract (v := .int _ _) rfl rfl rfl) ?_
    refine xl_pure rfl rfl rfl (pv_extract (v := .int _ _) rfl rfl rfl) ?_
    refine xl_pure rfl rfl rfl (pv_assign (v := .int _ _) rfl rfl) ?_
    refine xl_pure rfl rfl rfl (pv_assign (v := .int _ _) rfl rfl) ?_
    refine xl_nil ?_
    refine xthen_normal ?_
    refine xc_seq ?_
    refine xc_seq ?_
    refine xc_region ?_
    refine xl_pure rfl rfl rfl (pv_move (v := .int _ _) rfl rfl) ?_
    refine xl_ndec rfl rfl rfl (pv_neq rfl rfl rfl) (fun h2_1 => ?_) (fun h2_1 => ?_)
    · skip
      refine xl_nil ?_
      refine xthen_normal ?_
      refine xc_cond_f rfl ?_
      refine xc_skip ?_
      refine xthen_normal ?_
      refine xc_seq ?_
      refine xc_region ?_
      refine xl_pure rfl rfl rfl (pv_move (v := .slice _ _ _) rfl rfl) ?_
      refine xl_pure rfl rfl rfl (pv_move (v := .int _ _) rfl rfl) ?_
      refine xl_heavy rfl rfl rfl (hv_call (g := 69) rfl rfl (c69 (x := x) (hx.ext hX) hg (by omega) (owN 2 i)) rfl) ?_
      rintro v4_2 H4_2 ⟨hv4_2, hE4_2⟩
      have hX := hX.trans hE4_2
      rcases hv4_2 with ⟨hh4_2, rfl⟩ | ⟨hh4_2, rfl⟩
      · skip
        refine xl_pure rfl rfl rfl (pv_move (v := .tuple _) rfl rfl) ?_
        refine xl_pure rfl rfl rfl (pv_extract (v := .int _ _) rfl rfl rfl) ?_
        refine xl_pure rfl rfl rfl (pv_extract (v := .int _ _) rfl rfl rfl) ?_
        refine xl_pure rfl rfl rfl (pv_assign (v := .int _ _) rfl rfl) ?_
        refine xl_pure rfl rfl rfl (pv_assign (v := .int _ _) rfl rfl) ?_
        refine xl_nil ?_
        refine xthen_normal ?_
        refine xc_seq ?_
        refine xc_region ?_
        refine xl_pure rfl rfl rfl (pv_move (v := .int _ _) rfl rfl) ?_
        refine xl_pure rfl rfl rfl (pv_assign (v := .int _ _) rfl rfl) ?_
        refine xl_nil ?_
        refine xthen_normal ?_
        refine xc_ret ?_
        refine fin_ret (res1 (v := .int _ _) rfl rfl) ?_
        first
          | exact ⟨by rw [monV_has ho1_1 hh4_2], hX⟩
          | exact ⟨by rw [monV_none hh4_2], hX⟩
      · skip
        refine xl_pure rfl rfl rfl (pv_move (v := .tuple _) rfl rfl) ?_
        refine xl_pure rfl rfl rfl (pv_extract (v := .int _ _) rfl rfl rfl) ?_
        refine xl_pure rfl rfl rfl (pv_extract (v := .int _ _) rfl rfl rfl) ?_
        refine xl_pure rfl rfl rfl (pv_assign (v := .int _ _) rfl rfl) ?_
        refine xl_pure rfl rfl rfl (pv_assign (v := .int _ _) rfl rfl) ?_
        refine xl_nil ?_
        refine xthen_normal ?_
        refine xc_seq ?_
        refine xc_region ?_
        refine xl_pure rfl rfl rfl (pv_move (v := .int _ _) rfl rfl) ?_
        refine xl_pure rfl rfl rfl (pv_assign (v := .int _ _) rfl rfl) ?_
        refine xl_nil ?_
        refine xthen_normal ?_
        refine xc_ret ?_
        refine fin_ret (res1 (v := .int _ _) rfl rfl) ?_
        first
          | exact ⟨by rw [monV_has ho1_1 hh4_2], hX⟩
          | exact ⟨by rw [monV_none hh4_2], hX⟩
    · exact absurd (by decide) h2_1
  · skip
    refine xl_pure rfl rfl rfl (pv_move (v := .tuple _) rfl rfl) ?_
    refine xl_pure rfl rfl rfl (pv_extract (v := .int _ _) rfl rfl rfl) ?_
    refine xl_pure rfl rfl rfl (pv_extract (v := .int _ _) rfl rfl rfl) ?_
    refine xl_pure rfl rfl rfl (pv_assign (v := .int _ _) rfl rfl) ?_
    refine xl_pure rfl rfl rfl (pv_assign (v := .int _ _) rfl rfl) ?_
    refine xl_nil ?_
    refine xthen_normal ?_
    refine xc_seq ?_
    refine xc_seq ?_
    refine xc_region ?_
    refine xl_pure rfl rfl rfl (pv_move (v := .int _ _) rfl rfl) ?_
    refine xl_ndec rfl rfl rfl (pv_neq rfl rfl rfl) (fun h2_1 => ?_) (fun h2_1 => ?_)
    · exact absurd h2_1 (by decide)
    · skip
      refine xl_nil ?_
      refine xthen_normal ?_
      refine xc_cond_t rfl ?_
      refine xc_seq ?_
      refine xc_region ?_
      refine xl_pure rfl rfl rfl (pv_assign (v := .int _ _) rfl rfl) ?_
      refine xl_nil ?_
      refine xthen_normal ?_
      refine xc_ret ?_
      refine xthen_ret ?_
      refine fin_ret (res1 (v := .int _ _) rfl rfl) ?_
      exact ⟨by rw [monV_no ho1_1], hX⟩

theorem c30 {O : Outer} {H : Heap} {a : Option Addr} {c : Nat} {x : List (List Int)} (hx : RowsT H 122 2 a x) (hg : Goo x) (hl : x.length < 900000) (hc : x.length ≤ c) (f i n : Int) :
    FnC Try.prog 30 #[.slice a x.length c, .int .i64 f, .int .i64 i, .int .i64 n] O H (fun v H' => ∃ a' c', v = .tuple #[.slice a' (payX x f i n).length c', .int .i64 (payE x f i n)] ∧ RowsT H' 122 2 a' (payX x f i n) ∧ (payX x f i n).length ≤ c' ∧ Ext H H') := by
  refine fn_enter (A := [.slice a x.length c, .int .i64 f, .int .i64 i, .int .i64 n]) Try.func30 rfl rfl ?_
  have hX := Ext.refl H
  refine xc_seq ?_
  refine xc_region ?_
  refine xl_pure rfl rfl rfl (pv_assign (v := .slice _ _ _) rfl rfl) ?_
  refine xl_pure rfl rfl rfl (pv_assign (v := .int _ _) rfl rfl) ?_
  refine xl_nil ?_
  refine xthen_normal ?_
  refine xc_seq ?_
  refine xc_region ?_
  refine xl_pure rfl rfl rfl (pv_move (v := .int _ _) rfl rfl) ?_
  refine xl_heavy rfl rfl rfl (hv_call (g := 8) rfl rfl (c8 (2) (i)) rfl) ?_
  rintro v1_1 H1_1 ⟨hv1_1, rfl⟩
  rcases hv1_1 with ⟨ho1_1, rfl⟩ | ⟨ho1_1, rfl⟩
  · skip
    refine xl_pure rfl rfl rfl (pv_move (v := .tuple _) rfl rfl) ?_
    refine xl_pure rfl rfl rfl (pv_extract (v := .int _ _) rfl rfl rfl) ?_
    refine xl_pure rfl rfl rfl (pv_extract (v := .int _ _) rfl rfl rfl) ?_
    refine xl_pure rfl rfl rfl (pv_assign (v := .int _ _) rfl rfl) ?_
    refine xl_pure rfl rfl rfl (pv_assign (v := .int _ _) rfl rfl) ?_
    refine xl_nil ?_
    refine xthen_normal ?_
    refine xc_seq ?_
    refine xc_seq ?_
    refine xc_region ?_
    refine xl_pure rfl rfl rfl (pv_move (v := .int _ _) rfl rfl) ?_
    refine xl_ndec rfl rfl rfl (pv_neq rfl rfl rfl) (fun h2_1 => ?_) (fun h2_1 => ?_)
    · skip
      refine xl_nil ?_
      refine xthen_normal ?_
      refine xc_cond_f rfl ?_
      refine xc_skip ?_
      refine xthen_normal ?_
      refine xc_seq ?_
      refine xc_region ?_
      refine xl_pure rfl rfl rfl (pv_move (v := .slice _ _ _) rfl rfl) ?_
      refine xl_pure rfl rfl rfl (pv_move (v := .int _ _) rfl rfl) ?_
      refine xl_heavy rfl rfl rfl (hv_call (g := 69) rfl rfl (c69 (x := x) (hx.ext hX) hg (by omega) (f)) rfl) ?_
      rintro v4_2 H4_2 ⟨hv4_2, hE4_2⟩
      have hX := hX.trans hE4_2
      rcases hv4_2 with ⟨hh4_2, rfl⟩ | ⟨hh4_2, rfl⟩
      · skip
        refine xl_pure rfl rfl rfl (pv_move (v := .tuple _) rfl rfl) ?_
        refine xl_pure rfl rfl rfl (pv_extract (v := .int _ _) rfl rfl rfl) ?_
        refine xl_pure rfl rfl rfl (pv_extract (v := .int _ _) rfl rfl rfl) ?_
        refine xl_pure rfl rfl rfl (pv_assign (v := .int _ _) rfl rfl) ?_
        refine xl_pure rfl rfl rfl (pv_assign (v := .int _ _) rfl rfl) ?_
        refine xl_nil ?_
        refine xthen_normal ?_
        refine xc_seq ?_
        refine xc_seq ?_
        refine xc_region ?_
        refine xl_pure rfl rfl rfl (pv_move (v := .int _ _) rfl rfl) ?_
        refine xl_ndec rfl rfl rfl (pv_neq rfl rfl rfl) (fun h5_1 => ?_) (fun h5_1 => ?_)
        · skip
          refine xl_nil ?_
          refine xthen_normal ?_
          refine xc_cond_f rfl ?_
          refine xc_skip ?_
          refine xthen_normal ?_
          refine xc_seq ?_
          refine xc_seq ?_
          refine xc_region ?_
          refine xl_pure rfl rfl rfl (pv_move (v := .int _ _) rfl rfl) ?_
          refine xl_dec rfl rfl rfl (pv_lss rfl rfl rfl) (fun h7_1 => ?_) (fun h7_1 => ?_)
          · skip
            refine xl_nil ?_
            refine xthen_normal ?_
            refine xc_cond_t rfl ?_
            refine xc_seq ?_
            refine xc_region ?_
            refine xl_pure rfl rfl rfl (pv_move (v := .slice _ _ _) rfl rfl) ?_
            refine xl_pure rfl rfl rfl (pv_assign (v := .slice _ _ _) rfl rfl) ?_
            refine xl_pure rfl rfl rfl (pv_assign (v := .int _ _) rfl rfl) ?_
            refine xl_nil ?_
            refine xthen_normal ?_
            refine xc_ret ?_
            refine xthen_ret ?_
            refine fin_ret (res2 (v := .slice _ _ _) (x := .int _ _) rfl rfl rfl) ?_
            obtain ⟨e1, e2⟩ := pay_arg (n := n) ho1_1 hh4_2 (by omega)
            exact ⟨a, c, by rw [e1, e2], by rw [e2]; exact hx.ext hX, by rw [e2]; exact hc, hX⟩
          · skip
            refine xl_nil ?_
            refine xthen_normal ?_
            refine xc_cond_f rfl ?_
            refine xc_skip ?_
            refine xthen_normal ?_
            refine xc_seq ?_
            refine xc_seq ?_
            refine xc_region ?_
            refine xl_pure rfl rfl rfl (pv_move (v := .int _ _) rfl rfl) ?_
            refine xl_pure rfl rfl rfl (pv_move (v := .int _ _) rfl rfl) ?_
            refine xl_dec rfl rfl rfl (pv_lss rfl rfl rfl) (fun h9_2 => ?_) (fun h9_2 => ?_)
            · skip
              refine xl_nil ?_
              refine xthen_normal ?_
              refine xc_cond_t rfl ?_
              refine xc_seq ?_
              refine xc_region ?_
              refine xl_pure rfl rfl rfl (pv_move (v := .slice _ _ _) rfl rfl) ?_
              refine xl_pure rfl rfl rfl (pv_assign (v := .slice _ _ _) rfl rfl) ?_
              refine xl_pure rfl rfl rfl (pv_assign (v := .int _ _) rfl rfl) ?_
              refine xl_nil ?_
              refine xthen_normal ?_
              refine xc_ret ?_
              refine xthen_ret ?_
              refine fin_ret (res2 (v := .slice _ _ _) (x := .int _ _) rfl rfl rfl) ?_
              obtain ⟨e1, e2⟩ := pay_funds (n := n) ho1_1 hh4_2 (by omega) (by omega)
              exact ⟨a, c, by rw [e1, e2], by rw [e2]; exact hx.ext hX, by rw [e2]; exact hc, hX⟩
            · skip
              refine xl_nil ?_
              refine xthen_normal ?_
              refine xc_cond_f rfl ?_
              refine xc_skip ?_
              refine xthen_normal ?_
              refine xc_seq ?_
              obtain ⟨hgo, hlo2, hto⟩ := goo_open (o := owN 2 i) hg
              refine xc_region ?_
              refine xl_pure rfl rfl rfl (pv_move (v := .slice _ _ _) rfl rfl) ?_
              refine xl_pure rfl rfl rfl (pv_move (v := .int _ _) rfl rfl) ?_
              refine xl_heavy rfl rfl rfl (hv_call (g := 71) rfl rfl (c71 (hx.ext hX) hg (by omega) hc (owN 2 i)) rfl) ?_
              rintro v11_2 H11_2 ⟨a11_2, c11_2, rfl, hQ11_2, hc11_2, hE11_2⟩
              have hX := hX.trans hE11_2
              refine xl_pure rfl rfl rfl (pv_move (v := .tuple _) rfl rfl) ?_
              refine xl_pure rfl rfl rfl (pv_extract (v := .slice _ _ _) rfl rfl rfl) ?_
              refine xl_pure rfl rfl rfl (pv_extract (v := .int _ _) rfl rfl rfl) ?_
              refine xl_pure rfl rfl rfl (pv_assign (v := .slice _ _ _) rfl rfl) ?_
              refine xl_pure rfl rfl rfl (pv_assign (v := .int _ _) rfl rfl) ?_
              refine xl_nil ?_
              refine xthen_normal ?_
              refine xc_seq ?_
              refine xc_region ?_
              refine xl_pure rfl rfl rfl (pv_move (v := .slice _ _ _) rfl rfl) ?_
              refine xl_pure rfl rfl rfl (pv_move (v := .int _ _) rfl rfl) ?_
              refine xl_pure rfl rfl rfl (pv_move (v := .int _ _) rfl rfl) ?_
              refine xl_pure rfl rfl rfl (pv_move (v := .int _ _) rfl rfl) ?_
              refine xl_heavy rfl rfl rfl (hv_call (g := 70) rfl rfl (c70 hQ11_2 hgo (by omega) hc11_2 f (owN 2 i) n) rfl) ?_
              rintro v12_4 H12_4 ⟨a12_4, c12_4, rfl, hQ12_4, hc12_4, hE12_4⟩
              have hQ11_2 := hQ11_2.ext hE12_4
              have hX := hX.trans hE12_4
              refine xl_pure rfl rfl rfl (pv_extract (v := .slice _ _ _) rfl rfl rfl) ?_
              refine xl_pure rfl rfl rfl (pv_extract (v := .int _ _) rfl rfl rfl) ?_
              refine xl_pure rfl rfl rfl (pv_assign (v := .slice _ _ _) rfl rfl) ?_
              refine xl_pure rfl rfl rfl (pv_assign (v := .int _ _) rfl rfl) ?_
              refine xl_nil ?_
              refine xthen_normal ?_
              refine xc_ret ?_
              refine fin_ret (res2 (v := .slice _ _ _) (x := .int _ _) rfl rfl rfl) ?_
              obtain ⟨e1, e2⟩ := pay_go (n := n) ho1_1 hh4_2 (by omega) (by omega)
              exact ⟨_, _, by rw [e1, e2], by rw [e2]; exact hQ12_4, by rw [e2]; exact hc12_4, hX⟩
        · exact absurd (by decide) h5_1
      · skip
        refine xl_pure rfl rfl rfl (pv_move (v := .tuple _) rfl rfl) ?_
        refine xl_pure rfl rfl rfl (pv_extract (v := .int _ _) rfl rfl rfl) ?_
        refine xl_pure rfl rfl rfl (pv_extract (v := .int _ _) rfl rfl rfl) ?_
        refine xl_pure rfl rfl rfl (pv_assign (v := .int _ _) rfl rfl) ?_
        refine xl_pure rfl rfl rfl (pv_assign (v := .int _ _) rfl rfl) ?_
        refine xl_nil ?_
        refine xthen_normal ?_
        refine xc_seq ?_
        refine xc_seq ?_
        refine xc_region ?_
        refine xl_pure rfl rfl rfl (pv_move (v := .int _ _) rfl rfl) ?_
        refine xl_ndec rfl rfl rfl (pv_neq rfl rfl rfl) (fun h5_1 => ?_) (fun h5_1 => ?_)
        · exact absurd h5_1 (by decide)
        · skip
          refine xl_nil ?_
          refine xthen_normal ?_
          refine xc_cond_t rfl ?_
          refine xc_seq ?_
          refine xc_region ?_
          refine xl_pure rfl rfl rfl (pv_move (v := .slice _ _ _) rfl rfl) ?_
          refine xl_pure rfl rfl rfl (pv_move (v := .int _ _) rfl rfl) ?_
          refine xl_pure rfl rfl rfl (pv_assign (v := .slice _ _ _) rfl rfl) ?_
          refine xl_pure rfl rfl rfl (pv_assign (v := .int _ _) rfl rfl) ?_
          refine xl_nil ?_
          refine xthen_normal ?_
          refine xc_ret ?_
          refine xthen_ret ?_
          refine fin_ret (res2 (v := .slice _ _ _) (x := .int _ _) rfl rfl rfl) ?_
          obtain ⟨e1, e2⟩ := pay_none (n := n) ho1_1 hh4_2
          exact ⟨a, c, by rw [e1, e2], by rw [e2]; exact hx.ext hX, by rw [e2]; exact hc, hX⟩
    · exact absurd (by decide) h2_1
  · skip
    refine xl_pure rfl rfl rfl (pv_move (v := .tuple _) rfl rfl) ?_
    refine xl_pure rfl rfl rfl (pv_extract (v := .int _ _) rfl rfl rfl) ?_
    refine xl_pure rfl rfl rfl (pv_extract (v := .int _ _) rfl rfl rfl) ?_
    refine xl_pure rfl rfl rfl (pv_assign (v := .int _ _) rfl rfl) ?_
    refine xl_pure rfl rfl rfl (pv_assign (v := .int _ _) rfl rfl) ?_
    refine xl_nil ?_
    refine xthen_normal ?_
    refine xc_seq ?_
    refine xc_seq ?_
    refine xc_region ?_
    refine xl_pure rfl rfl rfl (pv_move (v := .int _ _) rfl rfl) ?_
    refine xl_ndec rfl rfl rfl (pv_neq rfl rfl rfl) (fun h2_1 => ?_) (fun h2_1 => ?_)
    · exact absurd h2_1 (by decide)
    · skip
      refine xl_nil ?_
      refine xthen_normal ?_
      refine xc_cond_t rfl ?_
      refine xc_seq ?_
      refine xc_region ?_
      refine xl_pure rfl rfl rfl (pv_move (v := .slice _ _ _) rfl rfl) ?_
      refine xl_pure rfl rfl rfl (pv_move (v := .int _ _) rfl rfl) ?_
      refine xl_pure rfl rfl rfl (pv_assign (v := .slice _ _ _) rfl rfl) ?_
      refine xl_pure rfl rfl rfl (pv_assign (v := .int _ _) rfl rfl) ?_
      refine xl_nil ?_
      refine xthen_normal ?_
      refine xc_ret ?_
      refine xthen_ret ?_
      refine fin_ret (res2 (v := .slice _ _ _) (x := .int _ _) rfl rfl rfl) ?_
      obtain ⟨e1, e2⟩ := pay_no (x := x) (f := f) (n := n) ho1_1
      exact ⟨a, c, by rw [e1, e2], by rw [e2]; exact hx.ext hX, by rw [e2]; exact hc, hX⟩

theorem c28 {O : Outer} {H : Heap} {a : Option Addr} {c : Nat} {x : List (List Int)} (hx : RowsT H 122 2 a x) (hg : Goo x) (hl : x.length < 900000) (hc : x.length ≤ c) (i : Int) {ap : Option Addr} {cp : Nat} {P : List (List Int)} (hP : Rows H ap 3 P) (hPl : P.length ≤ 1000) :
    FnC Try.prog 28 #[.slice a x.length c, .int .i64 i, .slice ap P.length cp] O H (fun v H' => ∃ a' c', v = .tuple #[.slice a' (poX x i P).length c', .int .i64 (poE x i P)] ∧ RowsT H' 122 2 a' (poX x i P) ∧ (poX x i P).length ≤ c' ∧ Ext H H') := by
  refine fn_enter (A := [.slice a x.length c, .int .i64 i, .slice ap P.length cp]) Try.func28 rfl rfl ?_
  have hX := Ext.refl H
  refine xc_seq ?_
  refine xc_region ?_
  refine xl_pure rfl rfl rfl (pv_assign (v := .slice _ _ _) rfl rfl) ?_
  refine xl_pure rfl rfl rfl (pv_assign (v := .int _ _) rfl rfl) ?_
  refine xl_nil ?_
  refine xthen_normal ?_
  refine xc_seq ?_
  refine xc_region ?_
  refine xl_pure rfl rfl rfl (pv_move (v := .int _ _) rfl rfl) ?_
  refine xl_heavy rfl rfl rfl (hv_call (g := 8) rfl rfl (c8 (2) (i)) rfl) ?_
  rintro v1_1 H1_1 ⟨hv1_1, rfl⟩
  rcases hv1_1 with ⟨ho1_1, rfl⟩ | ⟨ho1_1, rfl⟩
  · skip
    refine xl_pure rfl rfl rfl (pv_move (v := .tuple _) rfl rfl) ?_
    refine xl_pure rfl rfl rfl (pv_extract (v := .int _ _) rfl rfl rfl) ?_
    refine xl_pure rfl rfl rfl (pv_extract (v := .int _ _) rfl rfl rfl) ?_
    refine xl_pure rfl rfl rfl (pv_assign (v := .int _ _) rfl rfl) ?_
    refine xl_pure rfl rfl rfl (pv_assign (v := .int _ _) rfl rfl) ?_
    refine xl_nil ?_
    refine xthen_normal ?_
    refine xc_seq ?_
    refine xc_seq ?_
    refine xc_region ?_
    refine xl_pure rfl rfl rfl (pv_move (v := .int _ _) rfl rfl) ?_
    refine xl_ndec rfl rfl rfl (pv_neq rfl rfl rfl) (fun h2_1 => ?_) (fun h2_1 => ?_)
    · skip
      refine xl_nil ?_
      refine xthen_normal ?_
      refine xc_cond_f rfl ?_
      refine xc_skip ?_
      refine xthen_normal ?_
      refine xc_seq ?_
      refine xc_region ?_
      refine xl_pure rfl rfl rfl (pv_move (v := .slice _ _ _) rfl rfl) ?_
      refine xl_pure rfl rfl rfl (pv_move (v := .int _ _) rfl rfl) ?_
      refine xl_heavy rfl rfl rfl (hv_call (g := 34) rfl rfl (c34 (hx.ext hX) hg hl hc i) rfl) ?_
      rintro v4_2 H4_2 ⟨rfl, hE4_2⟩
      have hX := hX.trans hE4_2
      refine xl_pure rfl rfl rfl (pv_assign (v := .int _ _) rfl rfl) ?_
      refine xl_nil ?_
      refine xthen_normal ?_
      refine xc_seq ?_
      refine xc_seq ?_
      refine xc_region ?_
      refine xl_pure rfl rfl rfl (pv_assign (v := .int _ _) rfl rfl) ?_
      refine xl_nil ?_
      refine xthen_normal ?_
      refine xc_block ?_
      refine xc_loop (τ := Nat) (fun t => [(0, .slice a x.length c), (2, .slice ap P.length cp), (8, .int .i64 (owN 2 i)), (10, .int .i64 (poL x i P t)), (11, .int .i64 (t : Nat))]) (fun t H' => (t ≤ P.length) ∧ (PoA x i P t) ∧ (Ext H H')) (fun t H' => P.length - t) 0 ?_ ?_ ?_
      · exact ⟨rfl, rfl, rfl, iv poL_zero.symm, rfl, trivial⟩
      · skip
        exact ⟨Nat.zero_le _, fun k hk => absurd hk (by omega), hX⟩
      · intro σ
        clear hX
        rintro j Hl6 ⟨hj, hpa, hX⟩
        replace hj : j ≤ P.length := hj
        replace hpa : PoA x i P j := hpa
        replace hX : Ext H Hl6 := hX
        obtain ⟨bl, ofl, hPe⟩ := (hP.ext hX).at'
        have hpl := poA_le hg hj hpa
        show XC _ _ _ (upds σ [(0, .slice a x.length c), (2, .slice ap P.length cp), (8, .int .i64 (owN 2 i)), (10, .int .i64 (poL x i P j)), (11, .int .i64 (j : Nat))]) _
        refine xc_seq ?_
        refine xc_seq ?_
        refine xc_region ?_
        refine xl_pure rfl rfl rfl (pv_move (v := .int _ _) rfl rfl) ?_
        refine xl_pure rfl rfl rfl (pv_move (v := .slice _ _ _) rfl rfl) ?_
        refine xl_pure rfl rfl rfl (pv_len_l rfl rfl) ?_
        refine xl_dec rfl rfl rfl (pv_lss rfl rfl rfl) (fun h6_3 => ?_) (fun h6_3 => ?_)
        · skip
          refine xl_nil ?_
          refine xthen_normal ?_
          refine xc_cond_t rfl ?_
          refine xc_skip ?_
          refine xthen_normal ?_
          refine xc_seq ?_
          refine xc_block ?_
          refine xc_seq ?_
          refine xc_seq ?_
          have q0 : (gr P (j : Int).toNat).getD 0 0 = (gr P j).getD 0 0 := rfl
          have q1 : (gr P (j : Int).toNat).getD 1 0 = (gr P j).getD 1 0 := rfl
          have q2 : (gr P (j : Int).toNat).getD 2 0 = (gr P j).getD 2 0 := rfl
          refine xc_region ?_
          refine xl_pure rfl rfl rfl (pv_move (v := .slice _ _ _) rfl rfl) ?_
          refine xl_pure rfl rfl rfl (pv_move (v := .int _ _) rfl rfl) ?_
          refine xl_pure rfl rfl rfl (pv_indexAddr_l rfl (sl_eq (hPe (by omega)).1) rfl (by omega)) ?_
          refine xl_pure rfl rfl rfl (pv_fieldAddr rfl rfl) ?_
          refine xl_light rfl rfl rfl (lv_load (v := .int _ _) rfl rfl (by exact ld_num (j := 0) (hPe (by omega)).2 hP.1 (by omega) (by decide))) ?_
          refine xl_ndec rfl rfl rfl (pv_neq rfl rfl rfl) (fun h8_5 => ?_) (fun h8_5 => ?_)
          · skip
            refine xl_pure rfl rfl rfl (pv_move (v := .bool _) rfl rfl) ?_
            refine xl_pure rfl rfl rfl (pv_move (v := .slice _ _ _) rfl rfl) ?_
            refine xl_pure rfl rfl rfl (pv_move (v := .int _ _) rfl rfl) ?_
            refine xl_pure rfl rfl rfl (pv_indexAddr_l rfl (sl_eq (hPe (by omega)).1) rfl (by omega)) ?_
            refine xl_pure rfl rfl rfl (pv_fieldAddr rfl rfl) ?_
            refine xl_light rfl rfl rfl (lv_load (v := .int _ _) rfl rfl (by exact ld_num (j := 2) (hPe (by omega)).2 hP.1 (by omega) (by decide))) ?_
            refine xl_dec rfl rfl rfl (pv_lss rfl rfl rfl) (fun h8_12 => ?_) (fun h8_12 => ?_)
            · skip
              refine xl_pure rfl rfl rfl (pv_pick_f (v := .bool _) rfl rfl rfl) ?_
              refine xl_pure rfl rfl rfl (pv_move (v := .bool _) rfl rfl) ?_
              refine xl_skip rfl rfl rfl ?_
              refine xl_skip rfl rfl rfl ?_
              refine xl_skip rfl rfl rfl ?_
              refine xl_skip rfl rfl rfl ?_
              refine xl_skip rfl rfl rfl ?_
              refine xl_skip rfl rfl rfl ?_
              refine xl_skip rfl rfl rfl ?_
              refine xl_pure rfl rfl rfl (pv_pick_t (v := .bool _) rfl rfl rfl) ?_
              refine xl_nil ?_
              refine xthen_normal ?_
              refine xc_cond_t rfl ?_
              refine xc_seq ?_
              refine xc_region ?_
              refine xl_pure rfl rfl rfl (pv_move (v := .slice _ _ _) rfl rfl) ?_
              refine xl_pure rfl rfl rfl (pv_assign (v := .slice _ _ _) rfl rfl) ?_
              refine xl_pure rfl rfl rfl (pv_assign (v := .int _ _) rfl rfl) ?_
              refine xl_nil ?_
              refine xthen_normal ?_
              refine xc_ret ?_
              refine xthen_ret ?_
              refine xblock_ret ?_
              refine xthen_ret ?_
              refine xthen_ret ?_
              refine xblock_ret ?_
              refine xthen_ret ?_
              refine fin_ret (res2 (v := .slice _ _ _) (x := .int _ _) rfl rfl rfl) ?_
              obtain ⟨e1, e2⟩ := po_no (x := x) (i := i) (P := P) (fun h => by have h2 := h.2.1 j (by omega); omega)
              exact ⟨a, c, by rw [e1, e2], by rw [e2]; exact hx.ext hX, by rw [e2]; exact hc, hX⟩
            · skip
              refine xl_pure rfl rfl rfl (pv_pick_f (v := .bool _) rfl rfl rfl) ?_
              refine xl_pure rfl rfl rfl (pv_move (v := .bool _) rfl rfl) ?_
              refine xl_pure rfl rfl rfl (pv_move (v := .slice _ _ _) rfl rfl) ?_
              refine xl_pure rfl rfl rfl (pv_move (v := .int _ _) rfl rfl) ?_
              refine xl_pure rfl rfl rfl (pv_indexAddr_l rfl (sl_eq (hPe (by omega)).1) rfl (by omega)) ?_
              refine xl_pure rfl rfl rfl (pv_fieldAddr rfl rfl) ?_
              refine xl_light rfl rfl rfl (lv_load (v := .int _ _) rfl rfl (by exact ld_num (j := 2) (hPe (by omega)).2 hP.1 (by omega) (by decide))) ?_
              refine xl_pure rfl rfl rfl (pv_move (v := .int _ _) rfl rfl) ?_
              refine xl_dec rfl rfl rfl (pv_gtr rfl rfl rfl) (fun h8_21 => ?_) (fun h8_21 => ?_)
              · skip
                refine xl_pure rfl rfl rfl (pv_pick_f (v := .bool _) rfl rfl rfl) ?_
                refine xl_nil ?_
                refine xthen_normal ?_
                refine xc_cond_t rfl ?_
                refine xc_seq ?_
                refine xc_region ?_
                refine xl_pure rfl rfl rfl (pv_move (v := .slice _ _ _) rfl rfl) ?_
                refine xl_pure rfl rfl rfl (pv_assign (v := .slice _ _ _) rfl rfl) ?_
                refine xl_pure rfl rfl rfl (pv_assign (v := .int _ _) rfl rfl) ?_
                refine xl_nil ?_
                refine xthen_normal ?_
                refine xc_ret ?_
                refine xthen_ret ?_
                refine xblock_ret ?_
                refine xthen_ret ?_
                refine xthen_ret ?_
                refine xblock_ret ?_
                refine xthen_ret ?_
                refine fin_ret (res2 (v := .slice _ _ _) (x := .int _ _) rfl rfl rfl) ?_
                obtain ⟨e1, e2⟩ := po_no (x := x) (i := i) (P := P) (fun h => by have h2 := h.2.1 j (by omega); omega)
                exact ⟨a, c, by rw [e1, e2], by rw [e2]; exact hx.ext hX, by rw [e2]; exact hc, hX⟩
              · skip
                refine xl_pure rfl rfl rfl (pv_pick_f (v := .bool _) rfl rfl rfl) ?_
                refine xl_nil ?_
                refine xthen_normal ?_
                refine xc_cond_f rfl ?_
                refine xc_skip ?_
                refine xthen_normal ?_
                refine xc_region ?_
                refine xl_pure rfl rfl rfl (pv_move (v := .int _ _) rfl rfl) ?_
                refine xl_pure rfl rfl rfl (pv_move (v := .slice _ _ _) rfl rfl) ?_
                refine xl_pure rfl rfl rfl (pv_move (v := .int _ _) rfl rfl) ?_
                refine xl_pure rfl rfl rfl (pv_indexAddr_l rfl (sl_eq (hPe (by omega)).1) rfl (by omega)) ?_
                refine xl_pure rfl rfl rfl (pv_fieldAddr rfl rfl) ?_
                refine xl_light rfl rfl rfl (lv_load (v := .int _ _) rfl rfl (by exact ld_num (j := 2) (hPe (by omega)).2 hP.1 (by omega) (by decide))) ?_
                refine xl_pure rfl rfl rfl (pv_sub rfl rfl rfl (fit_i64 (by omega))) ?_
                refine xl_pure rfl rfl rfl (pv_assign (v := .int _ _) rfl rfl) ?_
                refine xl_nil ?_
                refine xblock_normal ?_
                refine xthen_normal ?_
                refine xc_region ?_
                refine xl_pure rfl rfl rfl (pv_move (v := .int _ _) rfl rfl) ?_
                refine xl_pure rfl rfl rfl (pv_add rfl rfl rfl (fit_i64 (by omega))) ?_
                refine xl_pure rfl rfl rfl (pv_assign (v := .int _ _) rfl rfl) ?_
                refine xl_nil ?_
                refine xthen_normal ?_
                exact ⟨j + 1, ⟨rfl, rfl, rfl, iv (poL_next (by omega)).symm, rfl, trivial⟩, ⟨by (try simp only); omega, all_next hpa ⟨by omega, by omega, by omega⟩, hX⟩, by (try simp only); omega⟩
          · skip
            refine xl_pure rfl rfl rfl (pv_move (v := .bool _) rfl rfl) ?_
            refine xl_skip rfl rfl rfl ?_
            refine xl_skip rfl rfl rfl ?_
            refine xl_skip rfl rfl rfl ?_
            refine xl_skip rfl rfl rfl ?_
            refine xl_skip rfl rfl rfl ?_
            refine xl_skip rfl rfl rfl ?_
            refine xl_pure rfl rfl rfl (pv_pick_t (v := .bool _) rfl rfl rfl) ?_
            refine xl_pure rfl rfl rfl (pv_move (v := .bool _) rfl rfl) ?_
            refine xl_skip rfl rfl rfl ?_
            refine xl_skip rfl rfl rfl ?_
            refine xl_skip rfl rfl rfl ?_
            refine xl_skip rfl rfl rfl ?_
            refine xl_skip rfl rfl rfl ?_
            refine xl_skip rfl rfl rfl ?_
            refine xl_skip rfl rfl rfl ?_
            refine xl_pure rfl rfl rfl (pv_pick_t (v := .bool _) rfl rfl rfl) ?_
            refine xl_nil ?_
            refine xthen_normal ?_
            refine xc_cond_t rfl ?_
            refine xc_seq ?_
            refine xc_region ?_
            refine xl_pure rfl rfl rfl (pv_move (v := .slice _ _ _) rfl rfl) ?_
            refine xl_pure rfl rfl rfl (pv_assign (v := .slice _ _ _) rfl rfl) ?_
            refine xl_pure rfl rfl rfl (pv_assign (v := .int _ _) rfl rfl) ?_
            refine xl_nil ?_
            refine xthen_normal ?_
            refine xc_ret ?_
            refine xthen_ret ?_
            refine xblock_ret ?_
            refine xthen_ret ?_
            refine xthen_ret ?_
            refine xblock_ret ?_
            refine xthen_ret ?_
            refine fin_ret (res2 (v := .slice _ _ _) (x := .int _ _) rfl rfl rfl) ?_
            obtain ⟨e1, e2⟩ := po_no (x := x) (i := i) (P := P) (fun h => by have h2 := h.2.1 j (by omega); omega)
            exact ⟨a, c, by rw [e1, e2], by rw [e2]; exact hx.ext hX, by rw [e2]; exact hc, hX⟩
        · skip
          refine xl_nil ?_
          refine xthen_normal ?_
          refine xc_cond_f rfl ?_
          refine xc_exit ?_
          refine xthen_exit ?_
          refine xthen_exit ?_
          refine xblock_same ?_
          refine xthen_normal ?_
          refine xc_seq ?_
          refine xc_seq ?_
          refine xc_region ?_
          refine xl_pure rfl rfl rfl (pv_move (v := .int _ _) rfl rfl) ?_
          refine xl_ndec rfl rfl rfl (pv_neq rfl rfl rfl) (fun h11_1 => ?_) (fun h11_1 => ?_)
          · skip
            refine xl_nil ?_
            refine xthen_normal ?_
            refine xc_cond_f rfl ?_
            refine xc_skip ?_
            refine xthen_normal ?_
            refine xc_seq ?_
            obtain rfl : j = P.length := by omega
            have hpc : PoC x i P := ⟨ho1_1, hpa, by omega⟩
            refine xc_region ?_
            refine xl_pure rfl rfl rfl (pv_move (v := .slice _ _ _) rfl rfl) ?_
            refine xl_pure rfl rfl rfl (pv_assign (v := .slice _ _ _) rfl rfl) ?_
            refine xl_nil ?_
            refine xthen_normal ?_
            refine xc_seq ?_
            refine xc_seq ?_
            refine xc_region ?_
            refine xl_pure rfl rfl rfl (pv_assign (v := .int _ _) rfl rfl) ?_
            refine xl_nil ?_
            refine xthen_normal ?_
            refine xc_block ?_
            refine xc_loop (τ := Nat) (fun t => [(0, .slice a x.length c), (2, .slice ap P.length cp), (8, .int .i64 (owN 2 i)), (12, .slice a x.length c), (13, .int .i64 (t : Nat))]) (fun t H' => (t ≤ P.length) ∧ (PoB x P t) ∧ (Ext H H')) (fun t H' => P.length - t) 0 ?_ ?_ ?_
            · exact ⟨rfl, rfl, rfl, rfl, rfl, trivial⟩
            · skip
              exact ⟨Nat.zero_le _, fun k hk => absurd hk (by omega), hX⟩
            · intro σ
              clear hX
              rintro j Hl15 ⟨hj, hpb, hX⟩
              replace hj : j ≤ P.length := hj
              replace hpb : PoB x P j := hpb
              replace hX : Ext H Hl15 := hX
              obtain ⟨bl, ofl, hPe⟩ := (hP.ext hX).at'
              show XC _ _ _ (upds σ [(0, .slice a x.length c), (2, .slice ap P.length cp), (8, .int .i64 (owN 2 i)), (12, .slice a x.length c), (13, .int .i64 (j : Nat))]) _
              refine xc_seq ?_
              refine xc_seq ?_
              refine xc_region ?_
              refine xl_pure rfl rfl rfl (pv_move (v := .int _ _) rfl rfl) ?_
              refine xl_pure rfl rfl rfl (pv_move (v := .slice _ _ _) rfl rfl) ?_
              refine xl_pure rfl rfl rfl (pv_len_l rfl rfl) ?_
              refine xl_dec rfl rfl rfl (pv_lss rfl rfl rfl) (fun h15_3 => ?_) (fun h15_3 => ?_)
              · skip
                refine xl_nil ?_
                refine xthen_normal ?_
                refine xc_cond_t rfl ?_
                refine xc_skip ?_
                refine xthen_normal ?_
                refine xc_seq ?_
                refine xc_block ?_
                refine xc_seq ?_
                have q0 : (gr P (j : Int).toNat).getD 0 0 = (gr P j).getD 0 0 := rfl
                have q1 : (gr P (j : Int).toNat).getD 1 0 = (gr P j).getD 1 0 := rfl
                have q2 : (gr P (j : Int).toNat).getD 2 0 = (gr P j).getD 2 0 := rfl
                refine xc_region ?_
                refine xl_pure rfl rfl rfl (pv_move (v := .slice _ _ _) rfl rfl) ?_
                refine xl_pure rfl rfl rfl (pv_move (v := .slice _ _ _) rfl rfl) ?_
                refine xl_pure rfl rfl rfl (pv_move (v := .int _ _) rfl rfl) ?_
                refine xl_pure rfl rfl rfl (pv_indexAddr_l rfl (sl_eq (hPe (by omega)).1) rfl (by omega)) ?_
                refine xl_pure rfl rfl rfl (pv_fieldAddr rfl rfl) ?_
                refine xl_light rfl rfl rfl (lv_load (v := .int _ _) rfl rfl (by exact ld_num (j := 1) (hPe (by omega)).2 hP.1 (by omega) (by decide))) ?_
                refine xl_heavy rfl rfl rfl (hv_call (g := 69) rfl rfl (c69 (x := x) (hx.ext hX) hg (by omega) ((gr P j).getD 1 0)) rfl) ?_
                rintro v17_6 H17_6 ⟨hv17_6, hE17_6⟩
                have hX := hX.trans hE17_6
                rcases hv17_6 with ⟨hh17_6, rfl⟩ | ⟨hh17_6, rfl⟩
                · skip
                  refine xl_pure rfl rfl rfl (pv_move (v := .tuple _) rfl rfl) ?_
                  refine xl_pure rfl rfl rfl (pv_extract (v := .int _ _) rfl rfl rfl) ?_
                  refine xl_pure rfl rfl rfl (pv_extract (v := .int _ _) rfl rfl rfl) ?_
                  refine xl_pure rfl rfl rfl (pv_assign (v := .int _ _) rfl rfl) ?_
                  refine xl_pure rfl rfl rfl (pv_assign (v := .int _ _) rfl rfl) ?_
                  refine xl_nil ?_
                  refine xthen_normal ?_
                  refine xc_seq ?_
                  refine xc_region ?_
                  refine xl_pure rfl rfl rfl (pv_move (v := .int _ _) rfl rfl) ?_
                  refine xl_ndec rfl rfl rfl (pv_neq rfl rfl rfl) (fun h18_1 => ?_) (fun h18_1 => ?_)
                  · skip
                    refine xl_nil ?_
                    refine xthen_normal ?_
                    refine xc_cond_f rfl ?_
                    refine xc_skip ?_
                    refine xblock_normal ?_
                    refine xthen_normal ?_
                    refine xc_region ?_
                    refine xl_pure rfl rfl rfl (pv_move (v := .int _ _) rfl rfl) ?_
                    refine xl_pure rfl rfl rfl (pv_add rfl rfl rfl (fit_i64 (by omega))) ?_
                    refine xl_pure rfl rfl rfl (pv_assign (v := .int _ _) rfl rfl) ?_
                    refine xl_nil ?_
                    refine xthen_normal ?_
                    exact ⟨j + 1, ⟨rfl, rfl, rfl, rfl, rfl, trivial⟩, ⟨by (try simp only); omega, all_next hpb hh17_6, hX⟩, by (try simp only); omega⟩
                  · exact absurd (by decide) h18_1
                · skip
                  refine xl_pure rfl rfl rfl (pv_move (v := .tuple _) rfl rfl) ?_
                  refine xl_pure rfl rfl rfl (pv_extract (v := .int _ _) rfl rfl rfl) ?_
                  refine xl_pure rfl rfl rfl (pv_extract (v := .int _ _) rfl rfl rfl) ?_
                  refine xl_pure rfl rfl rfl (pv_assign (v := .int _ _) rfl rfl) ?_
                  refine xl_pure rfl rfl rfl (pv_assign (v := .int _ _) rfl rfl) ?_
                  refine xl_nil ?_
                  refine xthen_normal ?_
                  refine xc_seq ?_
                  refine xc_region ?_
                  refine xl_pure rfl rfl rfl (pv_move (v := .int _ _) rfl rfl) ?_
                  refine xl_ndec rfl rfl rfl (pv_neq rfl rfl rfl) (fun h18_1 => ?_) (fun h18_1 => ?_)
                  · exact absurd h18_1 (by decide)
                  · skip
                    refine xl_nil ?_
                    refine xthen_normal ?_
                    refine xc_cond_t rfl ?_
                    refine xc_seq ?_
                    refine xc_region ?_
                    refine xl_pure rfl rfl rfl (pv_move (v := .slice _ _ _) rfl rfl) ?_
                    refine xl_pure rfl rfl rfl (pv_move (v := .int _ _) rfl rfl) ?_
                    refine xl_pure rfl rfl rfl (pv_assign (v := .slice _ _ _) rfl rfl) ?_
                    refine xl_pure rfl rfl rfl (pv_assign (v := .int _ _) rfl rfl) ?_
                    refine xl_nil ?_
                    refine xthen_normal ?_
                    refine xc_ret ?_
                    refine xblock_ret ?_
                    refine xthen_ret ?_
                    refine xthen_ret ?_
                    refine xblock_ret ?_
                    refine xthen_ret ?_
                    refine fin_ret (res2 (v := .slice _ _ _) (x := .int _ _) rfl rfl rfl) ?_
                    obtain ⟨e1, e2⟩ := po_none (x := x) (i := i) (P := P) hpc (fun h => by have h2 := h j (by omega); rw [h2] at hh17_6; cases hh17_6)
                    exact ⟨a, c, by rw [e1, e2], by rw [e2]; exact hx.ext hX, by rw [e2]; exact hc, hX⟩
              · skip
                refine xl_nil ?_
                refine xthen_normal ?_
                refine xc_cond_f rfl ?_
                refine xc_exit ?_
                refine xthen_exit ?_
                refine xthen_exit ?_
                refine xblock_same ?_
                refine xthen_normal ?_
                refine xc_seq ?_
                refine xc_seq ?_
                obtain rfl : j = P.length := by omega
                refine xc_region ?_
                refine xl_pure rfl rfl rfl (pv_assign (v := .int _ _) rfl rfl) ?_
                refine xl_nil ?_
                refine xthen_normal ?_
                refine xc_block ?_
                refine xc_loop (τ := Nat × Option Addr × Nat) (fun t => [(0, .slice a x.length c), (2, .slice ap P.length cp), (8, .int .i64 (owN 2 i)), (12, .slice t.2.1 (poS x (owN 2 i) P t.1).length t.2.2), (16, .int .i64 (t.1 : Nat))]) (fun t H' => (t.1 ≤ P.length) ∧ (RowsT H' 122 2 t.2.1 (poS x (owN 2 i) P t.1)) ∧ ((poS x (owN 2 i) P t.1).length ≤ t.2.2) ∧ (Ext H H')) (fun t H' => P.length - t.1) (0, a, c) ?_ ?_ ?_
                · exact ⟨rfl, rfl, rfl, rfl, rfl, trivial⟩
                · skip
                  exact ⟨Nat.zero_le _, hx.ext hX, hc, hX⟩
                · intro σ
                  clear hX
                  rintro ⟨j, a1, c1⟩ Hl21 ⟨hj, hQ, hc1, hX⟩
                  replace hj : j ≤ P.length := hj
                  replace hQ : RowsT Hl21 122 2 a1 (poS x (owN 2 i) P j) := hQ
                  replace hc1 : (poS x (owN 2 i) P j).length ≤ c1 := hc1
                  replace hX : Ext H Hl21 := hX
                  obtain ⟨bl, ofl, hPe⟩ := (hP.ext hX).at'
                  obtain ⟨hgj, hlj0⟩ := goo_poS (o := owN 2 i) (P := P) hg j
                  show XC _ _ _ (upds σ [(0, .slice a x.length c), (2, .slice ap P.length cp), (8, .int .i64 (owN 2 i)), (12, .slice a1 (poS x (owN 2 i) P j).length c1), (16, .int .i64 (j : Nat))]) _
                  refine xc_seq ?_
                  refine xc_seq ?_
                  refine xc_region ?_
                  refine xl_pure rfl rfl rfl (pv_move (v := .int _ _) rfl rfl) ?_
                  refine xl_pure rfl rfl rfl (pv_move (v := .slice _ _ _) rfl rfl) ?_
                  refine xl_pure rfl rfl rfl (pv_len_l rfl rfl) ?_
                  refine xl_dec rfl rfl rfl (pv_lss rfl rfl rfl) (fun h21_3 => ?_) (fun h21_3 => ?_)
                  · skip
                    refine xl_nil ?_
                    refine xthen_normal ?_
                    refine xc_cond_t rfl ?_
                    refine xc_skip ?_
                    refine xthen_normal ?_
                    refine xc_seq ?_
                    refine xc_block ?_
                    refine xc_seq ?_
                    refine xc_seq ?_
                    have q0 : (gr P (j : Int).toNat).getD 0 0 = (gr P j).getD 0 0 := rfl
                    have q1 : (gr P (j : Int).toNat).getD 1 0 = (gr P j).getD 1 0 := rfl
                    have q2 : (gr P (j : Int).toNat).getD 2 0 = (gr P j).getD 2 0 := rfl
                    have hq2 : 0 ≤ (gr P j).getD 2 0 := (hpc.2.1 j (by omega)).2.1
                    refine xc_region ?_
                    refine xl_pure rfl rfl rfl (pv_move (v := .slice _ _ _) rfl rfl) ?_
                    refine xl_pure rfl rfl rfl (pv_move (v := .int _ _) rfl rfl) ?_
                    refine xl_pure rfl rfl rfl (pv_indexAddr_l rfl (sl_eq (hPe (by omega)).1) rfl (by omega)) ?_
                    refine xl_pure rfl rfl rfl (pv_fieldAddr rfl rfl) ?_
                    refine xl_light rfl rfl rfl (lv_load (v := .int _ _) rfl rfl (by exact ld_num (j := 2) (hPe (by omega)).2 hP.1 (by omega) (by decide))) ?_
                    refine xl_dec rfl rfl rfl (pv_eql rfl rfl rfl) (fun h23_5 => ?_) (fun h23_5 => ?_)
                    · skip
                      refine xl_nil ?_
                      refine xthen_normal ?_
                      refine xc_cond_t rfl ?_
                      refine xc_exit ?_
                      refine xthen_exit ?_
                      refine xblock_same ?_
                      refine xthen_normal ?_
                      refine xc_region ?_
                      refine xl_pure rfl rfl rfl (pv_move (v := .int _ _) rfl rfl) ?_
                      refine xl_pure rfl rfl rfl (pv_add rfl rfl rfl (fit_i64 (by omega))) ?_
                      refine xl_pure rfl rfl rfl (pv_assign (v := .int _ _) rfl rfl) ?_
                      refine xl_nil ?_
                      refine xthen_normal ?_
                      first
                        | exact ⟨(j + 1, _, _), ⟨rfl, rfl, rfl, slv (by rw [poS_go (by omega)]), rfl, trivial⟩, ⟨by (try simp only); omega, by rw [poS_go (by omega)]; exact hQ24_12, by rw [poS_go (by omega)]; exact hc24_12, hX⟩, by (try simp only); omega⟩
                        | exact ⟨(j + 1, _, _), ⟨rfl, rfl, rfl, slv (by rw [poS_skip (by omega)]), rfl, trivial⟩, ⟨by (try simp only); omega, by rw [poS_skip (by omega)]; exact hQ, by rw [poS_skip (by omega)]; exact hc1, hX⟩, by (try simp only); omega⟩
                    · skip
                      refine xl_nil ?_
                      refine xthen_normal ?_
                      refine xc_cond_f rfl ?_
                      refine xc_skip ?_
                      refine xthen_normal ?_
                      refine xc_seq ?_
                      have hmv := po_move hg hpc hpb (show j < P.length by omega) (by omega)
                      refine xp_start rfl (by repeat (first | with_reducible exact np_fin | with_reducible exact np_ret | with_reducible refine np_then ?_ | with_reducible refine np_block ?_)) (by kernel_rfl) ?_
                      refine xp_pure (i := 0) rfl (by kernel_rfl) (by kernel_rfl) rfl rfl rfl (pv_move (v := .slice _ _ _) rfl rfl) ?_
                      refine xp_pure (i := 1) rfl (by kernel_rfl) (by kernel_rfl) rfl rfl rfl (pv_move (v := .int _ _) rfl rfl) ?_
                      refine xp_pure (i := 2) rfl (by kernel_rfl) (by kernel_rfl) rfl rfl rfl (pv_move (v := .slice _ _ _) rfl rfl) ?_
                      refine xp_pure (i := 3) rfl (by kernel_rfl) (by kernel_rfl) rfl rfl rfl (pv_move (v := .int _ _) rfl rfl) ?_
                      refine xp_pure (i := 4) rfl (by kernel_rfl) (by kernel_rfl) rfl rfl rfl (pv_indexAddr_l rfl (sl_eq (hPe (by omega)).1) rfl (by omega)) ?_
                      refine xp_pure (i := 5) rfl (by kernel_rfl) (by kernel_rfl) rfl rfl rfl (pv_fieldAddr rfl rfl) ?_
                      refine xp_light (i := 6) rfl (by kernel_rfl) (by kernel_rfl) rfl rfl rfl (lv_load (v := .int _ _) rfl rfl (by exact ld_num (j := 1) (hPe (by omega)).2 hP.1 (by omega) (by decide))) ?_
                      refine xp_pure (i := 7) rfl (by kernel_rfl) (by kernel_rfl) rfl rfl rfl (pv_move (v := .slice _ _ _) rfl rfl) ?_
                      refine xp_pure (i := 8) rfl (by kernel_rfl) (by kernel_rfl) rfl rfl rfl (pv_move (v := .int _ _) rfl rfl) ?_
                      refine xp_pure (i := 9) rfl (by kernel_rfl) (by kernel_rfl) rfl rfl rfl (pv_indexAddr_l rfl (sl_eq (hPe (by omega)).1) rfl (by omega)) ?_
                      refine xp_pure (i := 10) rfl (by kernel_rfl) (by kernel_rfl) rfl rfl rfl (pv_fieldAddr rfl rfl) ?_
                      refine xp_light (i := 11) rfl (by kernel_rfl) (by kernel_rfl) rfl rfl rfl (lv_load (v := .int _ _) rfl rfl (by exact ld_num (j := 2) (hPe (by omega)).2 hP.1 (by omega) (by decide))) ?_
                      refine xp_heavy (i := 12) (by kernel_rfl) ?_
                      refine xph_val rfl rfl rfl rfl (hv_call (g := 70) rfl rfl (c70 (x := (poS x (owN 2 i) P j)) hQ hgj (by omega) hc1 (owN 2 i) ((gr P j).getD 1 0) ((gr P j).getD 2 0)) rfl) (pd (by kernel_rfl) (pd (by kernel_rfl) pn)) ?_
                      rintro v24_12 H24_12 ⟨a24_12, c24_12, rfl, hQ24_12, hc24_12, hE24_12⟩
                      have hQ := hQ.ext hE24_12
                      have hX := hX.trans hE24_12
                      refine ⟨okn, ?_⟩
                      refine xp_pure (i := 13) rfl (by kernel_rfl) (by kernel_rfl) rfl rfl rfl (pv_move (v := .tuple _) rfl rfl) ?_
                      refine xp_pure (i := 14) rfl (by kernel_rfl) (by kernel_rfl) rfl rfl rfl (pv_extract (v := .slice _ _ _) rfl rfl rfl) ?_
                      refine xp_pure (i := 15) rfl (by kernel_rfl) (by kernel_rfl) rfl rfl rfl (pv_extract (v := .int _ _) rfl rfl rfl) ?_
                      refine xp_pure (i := 16) rfl (by kernel_rfl) (by kernel_rfl) rfl rfl rfl (pv_assign (v := .slice _ _ _) rfl rfl) ?_
                      refine xp_pure (i := 17) rfl (by kernel_rfl) (by kernel_rfl) rfl rfl rfl (pv_assign (v := .int _ _) rfl rfl) ?_
                      refine xp_done (by kernel_rfl) ?_
                      refine xthen_normal ?_
                      refine xc_seq ?_
                      refine xc_seq ?_
                      refine xc_region ?_
                      refine xl_pure rfl rfl rfl (pv_move (v := .int _ _) rfl rfl) ?_
                      refine xl_ndec rfl rfl rfl (pv_neq rfl rfl rfl) (fun h25_1 => ?_) (fun h25_1 => ?_)
                      · skip
                        refine xl_nil ?_
                        refine xthen_normal ?_
                        refine xc_cond_f rfl ?_
                        refine xc_skip ?_
                        refine xthen_normal ?_
                        refine xc_region ?_
                        refine xl_pure rfl rfl rfl (pv_move (v := .slice _ _ _) rfl rfl) ?_
                        refine xl_pure rfl rfl rfl (pv_assign (v := .slice _ _ _) rfl rfl) ?_
                        refine xl_nil ?_
                        refine xblock_normal ?_
                        refine xthen_normal ?_
                        refine xc_region ?_
                        refine xl_pure rfl rfl rfl (pv_move (v := .int _ _) rfl rfl) ?_
                        refine xl_pure rfl rfl rfl (pv_add rfl rfl rfl (fit_i64 (by omega))) ?_
                        refine xl_pure rfl rfl rfl (pv_assign (v := .int _ _) rfl rfl) ?_
                        refine xl_nil ?_
                        refine xthen_normal ?_
                        first
                          | exact ⟨(j + 1, _, _), ⟨rfl, rfl, rfl, slv (by rw [poS_go (by omega)]), rfl, trivial⟩, ⟨by (try simp only); omega, by rw [poS_go (by omega)]; exact hQ24_12, by rw [poS_go (by omega)]; exact hc24_12, hX⟩, by (try simp only); omega⟩
                          | exact ⟨(j + 1, _, _), ⟨rfl, rfl, rfl, slv (by rw [poS_skip (by omega)]), rfl, trivial⟩, ⟨by (try simp only); omega, by rw [poS_skip (by omega)]; exact hQ, by rw [poS_skip (by omega)]; exact hc1, hX⟩, by (try simp only); omega⟩
                      · exact absurd hmv h25_1
                  · skip
                    refine xl_nil ?_
                    refine xthen_normal ?_
                    refine xc_cond_f rfl ?_
                    refine xc_exit ?_
                    refine xthen_exit ?_
                    refine xthen_exit ?_
                    refine xblock_same ?_
                    refine xthen_normal ?_
                    refine xc_seq ?_
                    refine xc_region ?_
                    refine xl_pure rfl rfl rfl (pv_move (v := .slice _ _ _) rfl rfl) ?_
                    refine xl_pure rfl rfl rfl (pv_assign (v := .slice _ _ _) rfl rfl) ?_
                    refine xl_pure rfl rfl rfl (pv_assign (v := .int _ _) rfl rfl) ?_
                    refine xl_nil ?_
                    refine xthen_normal ?_
                    refine xc_ret ?_
                    refine fin_ret (res2 (v := .slice _ _ _) (x := .int _ _) rfl rfl rfl) ?_
                    obtain rfl : j = P.length := by omega
                    obtain ⟨e1, e2⟩ := po_go (x := x) (i := i) (P := P) hpc hpb
                    exact ⟨_, _, by rw [e1, e2], by rw [e2]; exact hQ, by rw [e2]; exact hc1, hX⟩
          · skip
            refine xl_nil ?_
            refine xthen_normal ?_
            refine xc_cond_t rfl ?_
            refine xc_seq ?_
            refine xc_region ?_
            refine xl_pure rfl rfl rfl (pv_move (v := .slice _ _ _) rfl rfl) ?_
            refine xl_pure rfl rfl rfl (pv_assign (v := .slice _ _ _) rfl rfl) ?_
            refine xl_pure rfl rfl rfl (pv_assign (v := .int _ _) rfl rfl) ?_
            refine xl_nil ?_
            refine xthen_normal ?_
            refine xc_ret ?_
            refine xthen_ret ?_
            refine fin_ret (res2 (v := .slice _ _ _) (x := .int _ _) rfl rfl rfl) ?_
            obtain rfl : j = P.length := by omega
            obtain ⟨e1, e2⟩ := po_no (x := x) (i := i) (P := P) (fun h => h11_1 h.2.2)
            exact ⟨a, c, by rw [e1, e2], by rw [e2]; exact hx.ext hX, by rw [e2]; exact hc, hX⟩
    · exact absurd (by decide) h2_1
  · skip
    refine xl_pure rfl rfl rfl (pv_move (v := .tuple _) rfl rfl) ?_
    refine xl_pure rfl rfl rfl (pv_extract (v := .int _ _) rfl rfl rfl) ?_
    refine xl_pure rfl rfl rfl (pv_extract (v := .int _ _) rfl rfl rfl) ?_
    refine xl_pure rfl rfl rfl (pv_assign (v := .int _ _) rfl rfl) ?_
    refine xl_pure rfl rfl rfl (pv_assign (v := .int _ _) rfl rfl) ?_
    refine xl_nil ?_
    refine xthen_normal ?_
    refine xc_seq ?_
    refine xc_seq ?_
    refine xc_region ?_
    refine xl_pure rfl rfl rfl (pv_move (v := .int _ _) rfl rfl) ?_
    refine xl_ndec rfl rfl rfl (pv_neq rfl rfl rfl) (fun h2_1 => ?_) (fun h2_1 => ?_)
    · exact absurd h2_1 (by decide)
    · skip
      refine xl_nil ?_
      refine xthen_normal ?_
      refine xc_cond_t rfl ?_
      refine xc_seq ?_
      refine xc_region ?_
      refine xl_pure rfl rfl rfl (pv_move (v := .slice _ _ _) rfl rfl) ?_
      refine xl_pure rfl rfl rfl (pv_move (v := .int _ _) rfl rfl) ?_
      refine xl_pure rfl rfl rfl (pv_assign (v := .slice _ _ _) rfl rfl) ?_
      refine xl_pure rfl rfl rfl (pv_assign (v := .int _ _) rfl rfl) ?_
      refine xl_nil ?_
      refine xthen_normal ?_
      refine xc_ret ?_
      refine xthen_ret ?_
      refine fin_ret (res2 (v := .slice _ _ _) (x := .int _ _) rfl rfl rfl) ?_
      obtain ⟨e1, e2⟩ := po_no (x := x) (P := P) (fun h => ho1_1 h.1)
      exact ⟨a, c, by rw [e1, e2], by rw [e2]; exact hx.ext hX, by rw [e2]; exact hc, hX⟩
end Go.XG.Pu
