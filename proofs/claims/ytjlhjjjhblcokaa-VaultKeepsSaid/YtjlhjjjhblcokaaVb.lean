/-
  Walks of the seat's functions over the logic XG: each function, what it computes. Printed by a program out of wip/walks.py.
-/
import Derived.Test.YtjlhjjjhblcokaaI
import Derived.Test.YtjlhjjjhblcokaaXs
import Derived.Test.YtjlhjjjhblcokaaTo
import Derived.Test.YtjlhjjjhblcokaaTa
import Derived.Test.YtjlhjjjhblcokaaTb
import Derived.Test.YtjlhjjjhblcokaaKb
import Derived.Test.YtjlhjjjhblcokaaBa
import Derived.Test.YtjlhjjjhblcokaaBb
import Derived.Test.YtjlhjjjhblcokaaBc
import Derived.Test.YtjlhjjjhblcokaaKp
import Derived.Test.YtjlhjjjhblcokaaUa
import Derived.Test.YtjlhjjjhblcokaaKv
import Derived.Test.YtjlhjjjhblcokaaXw
import Derived.Test.YtjlhjjjhblcokaaVa
namespace Go.XG
open Go.Proofs
set_option maxRecDepth 20000
set_option maxHeartbeats 4000000
theorem c55 {O : Outer} {H : Heap} {bp c : Nat} {a : Option Addr} {l : List (List Int)} {T : List Int} (mp : Blk H bp (.slice a (l).length c :: ints (T)) 87) (hR : RowsT H 138 5 a l) (hc : l.length ≤ c) (hna : a = none → c = 0) (hl : l.length < 800000) (hg : GooL l) (ht : Tots l T) {sa : Option Addr} {sc : Nat} {s : List Stack} (hS : StksO H bp sa s) (hsl : s.length < 1099511627776) {b0 b1 b2 b3 : Nat} {f0 f1 f2 f3 o : Int} (m0 : Blk H b0 [.pointer (some ⟨bp, 0, none⟩)] 31) (m1 : Blk H b1 [.int .i64 f0, .int .i64 f1, .int .i64 f2, .int .i64 f3] 37) (m2 : Blk H b2 [.slice sa s.length sc] 38) (m3 : Blk H b3 [.int .i64 o] 3) :
    FnC Try.prog 55 #[.pointer (some ⟨bp, 0, none⟩), .func (.func 56) #[] #[.pointer (some ⟨b0, 0, none⟩), .pointer (some ⟨b1, 0, none⟩), .pointer (some ⟨b2, 0, none⟩), .pointer (some ⟨b3, 0, none⟩)]] O H (fun v H' => ∃ a' c' T', v = .int .i64 (moE l f0 f1 f2 o 0 f2 s) ∧ But bp H H' ∧ Blk H' bp (.slice a' (moX l f0 f1 f2 o 0 f2 s).length c' :: ints (T')) 87 ∧ RowsT H' 138 5 a' (moX l f0 f1 f2 o 0 f2 s) ∧ (moX l f0 f1 f2 o 0 f2 s).length ≤ c' ∧ (a' = none → c' = 0) ∧ Tots (moX l f0 f1 f2 o 0 f2 s) T') := by
  have hR0 := hR
  refine fn_enterB (A := [.pointer (some ⟨bp, 0, none⟩), .func (.func 56) #[] #[.pointer (some ⟨b0, 0, none⟩), .pointer (some ⟨b1, 0, none⟩), .pointer (some ⟨b2, 0, none⟩), .pointer (some ⟨b3, 0, none⟩)]]) Try.func55 rfl rfl ?_
  have hX := But.refl bp H
  refine xb_seq ?_
  refine xc_region ?_
  refine xl_heavy rfl rfl rfl (hv_box rfl rfl) ?_
  rintro v0_0 H0_0 ⟨b0_0, rfl, hN0_0⟩
  have gb0_0 := hX.fresh hN0_0
  have nmp_0_0 := mp.apart hN0_0
  have nm0_0_0 := m0.apart hN0_0
  have nm1_0_0 := m1.apart hN0_0
  have nm2_0_0 := m2.apart hN0_0
  have nm3_0_0 := m3.apart hN0_0
  have mp := mp.ext hN0_0.ext
  have hR := hR.ext hN0_0.ext
  have m0 := m0.ext hN0_0.ext
  have m1 := m1.ext hN0_0.ext
  have m2 := m2.ext hN0_0.ext
  have m3 := m3.ext hN0_0.ext
  have hR0 := hR0.ext hN0_0.ext
  have hX := hX.transE hN0_0.ext
  have m0_0 := hN0_0.blk
  refine xl_heavy rfl rfl rfl (hv_alloc rfl rfl) ?_
  rintro v0_1 H0_1 ⟨b0_1, rfl, hN0_1⟩
  have gb0_1 := hX.fresh hN0_1
  have nmp_0_1 := mp.apart hN0_1
  have nm0_0_1 := m0.apart hN0_1
  have nm1_0_1 := m1.apart hN0_1
  have nm2_0_1 := m2.apart hN0_1
  have nm3_0_1 := m3.apart hN0_1
  have nm0_0_0_1 := m0_0.apart hN0_1
  have mp := mp.ext hN0_1.ext
  have hR := hR.ext hN0_1.ext
  have m0 := m0.ext hN0_1.ext
  have m1 := m1.ext hN0_1.ext
  have m2 := m2.ext hN0_1.ext
  have m3 := m3.ext hN0_1.ext
  have hR0 := hR0.ext hN0_1.ext
  have m0_0 := m0_0.ext hN0_1.ext
  have hX := hX.transE hN0_1.ext
  have m0_1 := hN0_1.blk
  refine xl_nil ?_
  refine xthen_normal ?_
  refine xb_seq ?_
  refine xc_seq ?_
  refine xc_region ?_
  refine xl_light rfl rfl rfl (lv_load (v := .pointer _) rfl rfl (ld_blk m0_0 rfl)) ?_
  refine xl_pure rfl rfl rfl (pv_eql_pn rfl rfl rfl) ?_
  refine xl_nil ?_
  refine xthen_normal ?_
  refine xc_cond_f rfl ?_
  refine xc_skip ?_
  refine xthen_normal ?_
  refine xb_seq ?_
  refine xc_region ?_
  refine xl_light rfl rfl rfl (lv_load (v := .pointer _) rfl rfl (ld_blk m0_0 rfl)) ?_
  refine xl_heavy rfl rfl rfl (hv_call (g := 60) rfl rfl (c60 mp hR hc hna (by omega) hg.srt ht.len) rfl) ?_
  rintro v3_1 H3_1 ⟨b3_1, rfl, m3_1, hF3_1, hE3_1⟩
  have gb3_1 : bp ≠ b3_1 := Nat.ne_of_lt (Nat.lt_of_lt_of_le mp.lt hF3_1.le)
  have nmp_3_1 : Apart bp b3_1 := ⟨gb3_1⟩
  have mp := mp.ext hE3_1
  have hR := hR.ext hE3_1
  have hR0 := hR0.ext hE3_1
  have m0 := m0.ext hE3_1
  have m1 := m1.ext hE3_1
  have m2 := m2.ext hE3_1
  have m3 := m3.ext hE3_1
  have m0_0 := m0_0.ext hE3_1
  have m0_1 := m0_1.ext hE3_1
  have hX := hX.transE hE3_1
  refine xl_heavy rfl rfl rfl (hv_alloc rfl rfl) ?_
  rintro v3_2 H3_2 ⟨b3_2, rfl, hN3_2⟩
  have gb3_2 := hX.fresh hN3_2
  have nmp_3_2 := mp.apart hN3_2
  have nm0_3_2 := m0.apart hN3_2
  have nm1_3_2 := m1.apart hN3_2
  have nm2_3_2 := m2.apart hN3_2
  have nm3_3_2 := m3.apart hN3_2
  have nm0_0_3_2 := m0_0.apart hN3_2
  have nm0_1_3_2 := m0_1.apart hN3_2
  have nm3_1_3_2 := m3_1.apart hN3_2
  have mp := mp.ext hN3_2.ext
  have hR := hR.ext hN3_2.ext
  have m0 := m0.ext hN3_2.ext
  have m1 := m1.ext hN3_2.ext
  have m2 := m2.ext hN3_2.ext
  have m3 := m3.ext hN3_2.ext
  have hR0 := hR0.ext hN3_2.ext
  have m0_0 := m0_0.ext hN3_2.ext
  have m0_1 := m0_1.ext hN3_2.ext
  have m3_1 := m3_1.ext hN3_2.ext
  have hX := hX.transE hN3_2.ext
  have m3_2 := hN3_2.blk
  refine xl_store rfl rfl (hv_store (vs := [.pointer _]) rfl rfl rfl (m3_2) rfl (Nat.le_of_ble_eq_true rfl) rfl) ?_
  rintro v3_3 H3_3 ⟨hU3_3, hZ3_3⟩
  have mp := mp.off hU3_3.but (by first | exact nmp_3_2 | exact ⟨mp.ne m3_2 rfl⟩ | exact ⟨mp.ne m3_2 (by assumption)⟩ | exact ⟨Ne.symm (m3_2.ne mp (by assumption))⟩)
  have hR := hR.offT m3_2 hU3_3.but (by first | rfl | assumption)
  have m0 := m0.off hU3_3.but (by first | exact nm0_3_2 | exact ⟨m0.ne m3_2 rfl⟩ | exact ⟨m0.ne m3_2 (by assumption)⟩ | exact ⟨Ne.symm (m3_2.ne m0 (by assumption))⟩)
  have m1 := m1.off hU3_3.but (by first | exact nm1_3_2 | exact ⟨m1.ne m3_2 rfl⟩ | exact ⟨m1.ne m3_2 (by assumption)⟩ | exact ⟨Ne.symm (m3_2.ne m1 (by assumption))⟩)
  have m2 := m2.off hU3_3.but (by first | exact nm2_3_2 | exact ⟨m2.ne m3_2 rfl⟩ | exact ⟨m2.ne m3_2 (by assumption)⟩ | exact ⟨Ne.symm (m3_2.ne m2 (by assumption))⟩)
  have m3 := m3.off hU3_3.but (by first | exact nm3_3_2 | exact ⟨m3.ne m3_2 rfl⟩ | exact ⟨m3.ne m3_2 (by assumption)⟩ | exact ⟨Ne.symm (m3_2.ne m3 (by assumption))⟩)
  have hR0 := hR0.offT m3_2 hU3_3.but (by first | rfl | assumption)
  have m0_0 := m0_0.off hU3_3.but (by first | exact nm0_0_3_2 | exact ⟨m0_0.ne m3_2 rfl⟩ | exact ⟨m0_0.ne m3_2 (by assumption)⟩ | exact ⟨Ne.symm (m3_2.ne m0_0 (by assumption))⟩)
  have m0_1 := m0_1.off hU3_3.but (by first | exact nm0_1_3_2 | exact ⟨m0_1.ne m3_2 rfl⟩ | exact ⟨m0_1.ne m3_2 (by assumption)⟩ | exact ⟨Ne.symm (m3_2.ne m0_1 (by assumption))⟩)
  have m3_1 := m3_1.off hU3_3.but (by first | exact nm3_1_3_2 | exact ⟨m3_1.ne m3_2 rfl⟩ | exact ⟨m3_1.ne m3_2 (by assumption)⟩ | exact ⟨Ne.symm (m3_2.ne m3_1 (by assumption))⟩)
  have hX := hX.upd hU3_3.but gb3_2
  have m3_2 := hU3_3.blk
  refine xl_nil ?_
  refine xthen_normal ?_
  refine xb_defer rfl rfl rfl (pv_makeFunc (a := []) (b := [.pointer _, .pointer _, .pointer _]) rfl rfl rfl) rfl rfl rfl rfl ?_
  refine xb_last (g := 84) (A := [.pointer (some ⟨b0_1, 0, none⟩), .pointer (some ⟨b3_2, 0, none⟩), .pointer (some ⟨b0_0, 0, none⟩)]) (by simp) rfl ?_
  refine xc_region ?_
  refine xl_pure rfl rfl rfl (pv_move rfl rfl) ?_
  refine xl_heavy rfl rfl rfl (hv_call (g := 56) rfl rfl (c56 mp hR hc hna hl hg ht (hS.butO hX) hsl m0 m1 m2 m3) rfl) ?_
  rintro v5_1 H5_1 ⟨a5_1, c5_1, T5_1, rfl, hB5_1, hT5_1, hR5_1, hc5_1, hna5_1, ht5_1⟩
  have hR := hR.offT mp hB5_1 (by first | rfl | assumption)
  have m0 := m0.off hB5_1 (by first | exact nmp_0.symm | exact ⟨m0.ne mp rfl⟩ | exact ⟨m0.ne mp (by assumption)⟩ | exact ⟨Ne.symm (mp.ne m0 (by assumption))⟩)
  have m1 := m1.off hB5_1 (by first | exact nmp_1.symm | exact ⟨m1.ne mp rfl⟩ | exact ⟨m1.ne mp (by assumption)⟩ | exact ⟨Ne.symm (mp.ne m1 (by assumption))⟩)
  have m2 := m2.off hB5_1 (by first | exact nmp_2.symm | exact ⟨m2.ne mp rfl⟩ | exact ⟨m2.ne mp (by assumption)⟩ | exact ⟨Ne.symm (mp.ne m2 (by assumption))⟩)
  have m3 := m3.off hB5_1 (by first | exact nmp_3.symm | exact ⟨m3.ne mp rfl⟩ | exact ⟨m3.ne mp (by assumption)⟩ | exact ⟨Ne.symm (mp.ne m3 (by assumption))⟩)
  have hR0 := hR0.offT mp hB5_1 (by first | rfl | assumption)
  have m0_0 := m0_0.off hB5_1 (by first | exact nmp_0_0.symm | exact ⟨m0_0.ne mp rfl⟩ | exact ⟨m0_0.ne mp (by assumption)⟩ | exact ⟨Ne.symm (mp.ne m0_0 (by assumption))⟩)
  have m0_1 := m0_1.off hB5_1 (by first | exact nmp_0_1.symm | exact ⟨m0_1.ne mp rfl⟩ | exact ⟨m0_1.ne mp (by assumption)⟩ | exact ⟨Ne.symm (mp.ne m0_1 (by assumption))⟩)
  have m3_1 := m3_1.off hB5_1 (by first | exact nmp_3_1.symm | exact ⟨m3_1.ne mp rfl⟩ | exact ⟨m3_1.ne mp (by assumption)⟩ | exact ⟨Ne.symm (mp.ne m3_1 (by assumption))⟩)
  have m3_2 := m3_2.off hB5_1 (by first | exact nmp_3_2.symm | exact ⟨m3_2.ne mp rfl⟩ | exact ⟨m3_2.ne mp (by assumption)⟩ | exact ⟨Ne.symm (mp.ne m3_2 (by assumption))⟩)
  have hX := hX.trans hB5_1
  have mp := hT5_1
  refine xl_store rfl rfl (hv_store (vs := [.int _ _]) rfl rfl rfl (m0_1) rfl (Nat.le_of_ble_eq_true rfl) rfl) ?_
  rintro v5_2 H5_2 ⟨hU5_2, hZ5_2⟩
  have mp := mp.off hU5_2.but (by first | exact nmp_0_1 | exact ⟨mp.ne m0_1 rfl⟩ | exact ⟨mp.ne m0_1 (by assumption)⟩ | exact ⟨Ne.symm (m0_1.ne mp (by assumption))⟩)
  have hR := hR.offT m0_1 hU5_2.but (by first | rfl | assumption)
  have m0 := m0.off hU5_2.but (by first | exact nm0_0_1 | exact ⟨m0.ne m0_1 rfl⟩ | exact ⟨m0.ne m0_1 (by assumption)⟩ | exact ⟨Ne.symm (m0_1.ne m0 (by assumption))⟩)
  have m1 := m1.off hU5_2.but (by first | exact nm1_0_1 | exact ⟨m1.ne m0_1 rfl⟩ | exact ⟨m1.ne m0_1 (by assumption)⟩ | exact ⟨Ne.symm (m0_1.ne m1 (by assumption))⟩)
  have m2 := m2.off hU5_2.but (by first | exact nm2_0_1 | exact ⟨m2.ne m0_1 rfl⟩ | exact ⟨m2.ne m0_1 (by assumption)⟩ | exact ⟨Ne.symm (m0_1.ne m2 (by assumption))⟩)
  have m3 := m3.off hU5_2.but (by first | exact nm3_0_1 | exact ⟨m3.ne m0_1 rfl⟩ | exact ⟨m3.ne m0_1 (by assumption)⟩ | exact ⟨Ne.symm (m0_1.ne m3 (by assumption))⟩)
  have hR0 := hR0.offT m0_1 hU5_2.but (by first | rfl | assumption)
  have m0_0 := m0_0.off hU5_2.but (by first | exact nm0_0_0_1 | exact ⟨m0_0.ne m0_1 rfl⟩ | exact ⟨m0_0.ne m0_1 (by assumption)⟩ | exact ⟨Ne.symm (m0_1.ne m0_0 (by assumption))⟩)
  have m3_1 := m3_1.off hU5_2.but (by first | exact nm0_1_3_1.symm | exact ⟨m3_1.ne m0_1 rfl⟩ | exact ⟨m3_1.ne m0_1 (by assumption)⟩ | exact ⟨Ne.symm (m0_1.ne m3_1 (by assumption))⟩)
  have m3_2 := m3_2.off hU5_2.but (by first | exact nm0_1_3_2.symm | exact ⟨m3_2.ne m0_1 rfl⟩ | exact ⟨m3_2.ne m0_1 (by assumption)⟩ | exact ⟨Ne.symm (m0_1.ne m3_2 (by assumption))⟩)
  have hR5_1 := hR5_1.offT m0_1 hU5_2.but (by first | rfl | assumption)
  have hX := hX.upd hU5_2.but gb0_1
  have m0_1 := hU5_2.blk
  refine xl_nil ?_
  refine xthen_normal ?_
  obtain ⟨hgR, hlR⟩ := goo_moR (f0 := f0) (f1 := f1) (f2 := f2) (t0 := o) (t1 := 0) (t2 := f2) (s := s) hg
  have h84 := c84 (O := O) m0_1 m3_2 m0_0 m3_1 mp ht.len ht5_1.len ⟨Ne.symm gb3_1⟩
  refine DfC.mono h84 ?_
  clear h84
  rintro Hz ⟨hz, hB⟩
  have hR := hR5_1.offT mp hB rfl
  have hR0 := hR0.offT mp hB rfl
  have me := m0_1.off hB (by first | exact ⟨m0_1.ne mp rfl⟩ | exact m0_1.ne mp rfl)
  have hX := hX.trans hB
  refine ⟨_, resv1 rfl (rv_c (ty := 22) rfl (ld_blk me rfl)), ?_⟩
  rcases hz with ⟨e0, mp⟩ | ⟨e0, mp⟩
  · have e2 := mo_ok e0
    exact ⟨_, _, _, rfl, hX, by rw [e2]; exact mp, by rw [e2]; exact hR, by rw [e2]; exact hc5_1, hna5_1, by rw [e2]; exact ht5_1⟩
  · have e2 := mo_bad e0
    exact ⟨_, _, _, rfl, hX, by rw [e2]; exact mp, by rw [e2]; exact hR0, by rw [e2]; exact hc, hna, by rw [e2]; exact ht⟩

theorem c17 {O : Outer} {H : Heap} {bp c : Nat} {a : Option Addr} {l : List (List Int)} {T : List Int} (mp : Blk H bp (.slice a (l).length c :: ints (T)) 87) (hR : RowsT H 138 5 a l) (hc : l.length ≤ c) (hna : a = none → c = 0) (hl : l.length < 800000) (hg : GooL l) (ht : Tots l T) {sa : Option Addr} {sc : Nat} {s : List Stack} (hS : StksO H bp sa s) (hsl : s.length < 1099511627776) (f0 f1 f2 f3 w i : Int) :
    FnC Try.prog 17 #[.pointer (some ⟨bp, 0, none⟩), .agg #[.int .i64 f0, .int .i64 f1, .int .i64 f2, .int .i64 f3], .int .i64 w, .int .i64 i, .slice sa s.length sc] O H (fun v H' => ∃ a' c' T', v = .int .i64 (lkE l f0 f1 f2 w i s) ∧ But bp H H' ∧ Blk H' bp (.slice a' (lkX l f0 f1 f2 w i s).length c' :: ints (T')) 87 ∧ RowsT H' 138 5 a' (lkX l f0 f1 f2 w i s) ∧ (lkX l f0 f1 f2 w i s).length ≤ c' ∧ (a' = none → c' = 0) ∧ Tots (lkX l f0 f1 f2 w i s) T') := by
  refine fn_enter (A := [.pointer (some ⟨bp, 0, none⟩), .agg #[.int .i64 f0, .int .i64 f1, .int .i64 f2, .int .i64 f3], .int .i64 w, .int .i64 i, .slice sa s.length sc]) Try.func17 rfl rfl ?_
  have hX := But.refl bp H
  refine xc_seq ?_
  refine xc_region ?_
  refine xl_heavy rfl rfl rfl (hv_box rfl rfl) ?_
  rintro v0_0 H0_0 ⟨b0_0, rfl, hN0_0⟩
  have gb0_0 := hX.fresh hN0_0
  have nmp_0_0 := mp.apart hN0_0
  have mp := mp.ext hN0_0.ext
  have hR := hR.ext hN0_0.ext
  have hX := hX.transE hN0_0.ext
  have m0_0 := hN0_0.blk
  refine xl_heavy rfl rfl rfl (hv_box rfl rfl) ?_
  rintro v0_1 H0_1 ⟨b0_1, rfl, hN0_1⟩
  have gb0_1 := hX.fresh hN0_1
  have nmp_0_1 := mp.apart hN0_1
  have nm0_0_0_1 := m0_0.apart hN0_1
  have mp := mp.ext hN0_1.ext
  have hR := hR.ext hN0_1.ext
  have m0_0 := m0_0.ext hN0_1.ext
  have hX := hX.transE hN0_1.ext
  have m0_1 := hN0_1.blk
  refine xl_heavy rfl rfl rfl (hv_box rfl rfl) ?_
  rintro v0_2 H0_2 ⟨b0_2, rfl, hN0_2⟩
  have gb0_2 := hX.fresh hN0_2
  have nmp_0_2 := mp.apart hN0_2
  have nm0_0_0_2 := m0_0.apart hN0_2
  have nm0_1_0_2 := m0_1.apart hN0_2
  have mp := mp.ext hN0_2.ext
  have hR := hR.ext hN0_2.ext
  have m0_0 := m0_0.ext hN0_2.ext
  have m0_1 := m0_1.ext hN0_2.ext
  have hX := hX.transE hN0_2.ext
  have m0_2 := hN0_2.blk
  refine xl_pure rfl rfl rfl (pv_assign (v := .int _ _) rfl rfl) ?_
  refine xl_nil ?_
  refine xthen_normal ?_
  refine xc_seq ?_
  refine xc_region ?_
  refine xl_pure rfl rfl rfl (pv_move (v := .int _ _) rfl rfl) ?_
  refine xl_pure rfl rfl rfl (pv_move (v := .int _ _) rfl rfl) ?_
  refine xl_heavy rfl rfl rfl (hv_call (g := 7) rfl rfl (c7 (w) (i)) rfl) ?_
  rintro v1_2 H1_2 ⟨hv1_2, rfl⟩
  rcases hv1_2 with ⟨ho1_2, rfl⟩ | ⟨ho1_2, rfl⟩
  · skip
    refine xl_pure rfl rfl rfl (pv_move (v := .tuple _) rfl rfl) ?_
    refine xl_pure rfl rfl rfl (pv_extract (v := .int _ _) rfl rfl rfl) ?_
    refine xl_pure rfl rfl rfl (pv_extract (v := .int _ _) rfl rfl rfl) ?_
    refine xl_heavy rfl rfl rfl (hv_alloc rfl rfl) ?_
    rintro v1_6 H1_6 ⟨b1_6, rfl, hN1_6⟩
    have gb1_6 := hX.fresh hN1_6
    have nmp_1_6 := mp.apart hN1_6
    have nm0_0_1_6 := m0_0.apart hN1_6
    have nm0_1_1_6 := m0_1.apart hN1_6
    have nm0_2_1_6 := m0_2.apart hN1_6
    have mp := mp.ext hN1_6.ext
    have hR := hR.ext hN1_6.ext
    have m0_0 := m0_0.ext hN1_6.ext
    have m0_1 := m0_1.ext hN1_6.ext
    have m0_2 := m0_2.ext hN1_6.ext
    have hX := hX.transE hN1_6.ext
    have m1_6 := hN1_6.blk
    refine xl_store rfl rfl (hv_store (vs := [.int _ _]) rfl rfl rfl (m1_6) rfl (Nat.le_of_ble_eq_true rfl) rfl) ?_
    rintro v1_7 H1_7 ⟨hU1_7, hZ1_7⟩
    have mp := mp.off hU1_7.but (by first | exact nmp_1_6 | exact ⟨mp.ne m1_6 rfl⟩ | exact ⟨mp.ne m1_6 (by assumption)⟩ | exact ⟨Ne.symm (m1_6.ne mp (by assumption))⟩)
    have hR := hR.offT m1_6 hU1_7.but (by first | rfl | assumption)
    have m0_0 := m0_0.off hU1_7.but (by first | exact nm0_0_1_6 | exact ⟨m0_0.ne m1_6 rfl⟩ | exact ⟨m0_0.ne m1_6 (by assumption)⟩ | exact ⟨Ne.symm (m1_6.ne m0_0 (by assumption))⟩)
    have m0_1 := m0_1.off hU1_7.but (by first | exact nm0_1_1_6 | exact ⟨m0_1.ne m1_6 rfl⟩ | exact ⟨m0_1.ne m1_6 (by assumption)⟩ | exact ⟨Ne.symm (m1_6.ne m0_1 (by assumption))⟩)
    have m0_2 := m0_2.off hU1_7.but (by first | exact nm0_2_1_6 | exact ⟨m0_2.ne m1_6 rfl⟩ | exact ⟨m0_2.ne m1_6 (by assumption)⟩ | exact ⟨Ne.symm (m1_6.ne m0_2 (by assumption))⟩)
    have hX := hX.upd hU1_7.but gb1_6
    have m1_6 := hU1_7.blk
    refine xl_pure rfl rfl rfl (pv_assign (v := .int _ _) rfl rfl) ?_
    refine xl_nil ?_
    refine xthen_normal ?_
    refine xc_seq ?_
    refine xc_seq ?_
    refine xc_region ?_
    refine xl_pure rfl rfl rfl (pv_move (v := .int _ _) rfl rfl) ?_
    refine xl_ndec rfl rfl rfl (pv_neq rfl rfl rfl) (fun h2_1 => ?_) (fun h2_1 => ?_)
    · skip
      refine xl_nil ?_
      refine xthen_normal ?_
      refine xc_cond_f rfl ?_
      refine xc_skip ?_
      refine xthen_normal ?_
      refine xc_seq ?_
      refine xc_region ?_
      refine xl_light rfl rfl rfl (lv_load (v := .pointer _) rfl rfl (ld_blk m0_0 rfl)) ?_
      refine xl_pure rfl rfl rfl (pv_makeFunc (a := []) (b := [.pointer _, .pointer _, .pointer _, .pointer _]) rfl rfl rfl) ?_
      refine xl_heavy rfl rfl rfl (hv_call (g := 55) rfl rfl (c55 mp hR hc hna hl hg ht (hS.butO hX) hsl m0_0 m0_1 m0_2 m1_6) rfl) ?_
      rintro v4_2 H4_2 ⟨a4_2, c4_2, T4_2, rfl, hB4_2, hT4_2, hR4_2, hc4_2, hna4_2, ht4_2⟩
      have hR := hR.offT mp hB4_2 (by first | rfl | assumption)
      have m0_0 := m0_0.off hB4_2 (by first | exact nmp_0_0.symm | exact ⟨m0_0.ne mp rfl⟩ | exact ⟨m0_0.ne mp (by assumption)⟩ | exact ⟨Ne.symm (mp.ne m0_0 (by assumption))⟩)
      have m0_1 := m0_1.off hB4_2 (by first | exact nmp_0_1.symm | exact ⟨m0_1.ne mp rfl⟩ | exact ⟨m0_1.ne mp (by assumption)⟩ | exact ⟨Ne.symm (mp.ne m0_1 (by assumption))⟩)
      have m0_2 := m0_2.off hB4_2 (by first | exact nmp_0_2.symm | exact ⟨m0_2.ne mp rfl⟩ | exact ⟨m0_2.ne mp (by assumption)⟩ | exact ⟨Ne.symm (mp.ne m0_2 (by assumption))⟩)
      have m1_6 := m1_6.off hB4_2 (by first | exact nmp_1_6.symm | exact ⟨m1_6.ne mp rfl⟩ | exact ⟨m1_6.ne mp (by assumption)⟩ | exact ⟨Ne.symm (mp.ne m1_6 (by assumption))⟩)
      have hX := hX.trans hB4_2
      have mp := hT4_2
      refine xl_pure rfl rfl rfl (pv_assign (v := .int _ _) rfl rfl) ?_
      refine xl_nil ?_
      refine xthen_normal ?_
      refine xc_ret ?_
      refine fin_ret (res1 (v := .int _ _) rfl rfl) ?_
      obtain ⟨e1, e2⟩ := lk_go (l := l) (f0 := f0) (f1 := f1) (f2 := f2) (s := s) ho1_2
      exact ⟨_, _, _, by rw [e1], hX, by rw [e2]; exact mp, by rw [e2]; exact hR4_2, by rw [e2]; exact hc4_2, hna4_2, by rw [e2]; exact ht4_2⟩
    · exact absurd (by decide) h2_1
  · skip
    refine xl_pure rfl rfl rfl (pv_move (v := .tuple _) rfl rfl) ?_
    refine xl_pure rfl rfl rfl (pv_extract (v := .int _ _) rfl rfl rfl) ?_
    refine xl_pure rfl rfl rfl (pv_extract (v := .int _ _) rfl rfl rfl) ?_
    refine xl_heavy rfl rfl rfl (hv_alloc rfl rfl) ?_
    rintro v1_6 H1_6 ⟨b1_6, rfl, hN1_6⟩
    have gb1_6 := hX.fresh hN1_6
    have nmp_1_6 := mp.apart hN1_6
    have nm0_0_1_6 := m0_0.apart hN1_6
    have nm0_1_1_6 := m0_1.apart hN1_6
    have nm0_2_1_6 := m0_2.apart hN1_6
    have mp := mp.ext hN1_6.ext
    have hR := hR.ext hN1_6.ext
    have m0_0 := m0_0.ext hN1_6.ext
    have m0_1 := m0_1.ext hN1_6.ext
    have m0_2 := m0_2.ext hN1_6.ext
    have hX := hX.transE hN1_6.ext
    have m1_6 := hN1_6.blk
    refine xl_store rfl rfl (hv_store (vs := [.int _ _]) rfl rfl rfl (m1_6) rfl (Nat.le_of_ble_eq_true rfl) rfl) ?_
    rintro v1_7 H1_7 ⟨hU1_7, hZ1_7⟩
    have mp := mp.off hU1_7.but (by first | exact nmp_1_6 | exact ⟨mp.ne m1_6 rfl⟩ | exact ⟨mp.ne m1_6 (by assumption)⟩ | exact ⟨Ne.symm (m1_6.ne mp (by assumption))⟩)
    have hR := hR.offT m1_6 hU1_7.but (by first | rfl | assumption)
    have m0_0 := m0_0.off hU1_7.but (by first | exact nm0_0_1_6 | exact ⟨m0_0.ne m1_6 rfl⟩ | exact ⟨m0_0.ne m1_6 (by assumption)⟩ | exact ⟨Ne.symm (m1_6.ne m0_0 (by assumption))⟩)
    have m0_1 := m0_1.off hU1_7.but (by first | exact nm0_1_1_6 | exact ⟨m0_1.ne m1_6 rfl⟩ | exact ⟨m0_1.ne m1_6 (by assumption)⟩ | exact ⟨Ne.symm (m1_6.ne m0_1 (by assumption))⟩)
    have m0_2 := m0_2.off hU1_7.but (by first | exact nm0_2_1_6 | exact ⟨m0_2.ne m1_6 rfl⟩ | exact ⟨m0_2.ne m1_6 (by assumption)⟩ | exact ⟨Ne.symm (m1_6.ne m0_2 (by assumption))⟩)
    have hX := hX.upd hU1_7.but gb1_6
    have m1_6 := hU1_7.blk
    refine xl_pure rfl rfl rfl (pv_assign (v := .int _ _) rfl rfl) ?_
    refine xl_nil ?_
    refine xthen_normal ?_
    refine xc_seq ?_
    refine xc_seq ?_
    refine xc_region ?_
    refine xl_pure rfl rfl rfl (pv_move (v := .int _ _) rfl rfl) ?_
    refine xl_ndec rfl rfl rfl (pv_neq rfl rfl rfl) (fun h2_1 => ?_) (fun h2_1 => ?_)
    · exact absurd h2_1 (by decide)
    · skip
      refine xl_nil ?_
      refine xthen_normal ?_
      refine xc_cond_t rfl ?_
      refine xc_seq ?_
      refine xc_region ?_
      refine xl_pure rfl rfl rfl (pv_move (v := .int _ _) rfl rfl) ?_
      refine xl_pure rfl rfl rfl (pv_assign (v := .int _ _) rfl rfl) ?_
      refine xl_nil ?_
      refine xthen_normal ?_
      refine xc_ret ?_
      refine xthen_ret ?_
      refine fin_ret (res1 (v := .int _ _) rfl rfl) ?_
      obtain ⟨e1, e2⟩ := lk_no (l := l) (f0 := f0) (f1 := f1) (f2 := f2) (s := s) ho1_2
      exact ⟨a, c, T, by rw [e1], hX, by rw [e2]; exact mp, by rw [e2]; exact hR, by rw [e2]; exact hc, hna, by rw [e2]; exact ht⟩

theorem c15 {O : Outer} {H : Heap} {bp c : Nat} {a : Option Addr} {l : List (List Int)} {T : List Int} (mp : Blk H bp (.slice a (l).length c :: ints (T)) 87) (hR : RowsT H 138 5 a l) (hc : l.length ≤ c) (hna : a = none → c = 0) (hl : l.length < 1000000) (hg : GooL l) (ht : Tots l T) (w i p : Int) :
    FnC Try.prog 15 #[.pointer (some ⟨bp, 0, none⟩), .int .i64 w, .int .i64 i, .int .i64 p] O H (fun v H' => ∃ a' c', v = .slice a' (hdS l w i p).length c' ∧ StksN H' H.size a' (hdS l w i p) ∧ Ext H H') := by
  refine fn_enter (A := [.pointer (some ⟨bp, 0, none⟩), .int .i64 w, .int .i64 i, .int .i64 p]) Try.func15 rfl rfl ?_
  have hX := Ext.refl H
  refine xc_seq ?_
  refine xc_region ?_
  refine xl_pure rfl rfl rfl (pv_assign (v := .slice _ _ _) rfl rfl) ?_
  refine xl_nil ?_
  refine xthen_normal ?_
  refine xc_seq ?_
  refine xc_region ?_
  refine xl_pure rfl rfl rfl (pv_move (v := .int _ _) rfl rfl) ?_
  refine xl_pure rfl rfl rfl (pv_move (v := .int _ _) rfl rfl) ?_
  refine xl_heavy rfl rfl rfl (hv_call (g := 7) rfl rfl (c7 (w) (i)) rfl) ?_
  rintro v1_2 H1_2 ⟨hv1_2, rfl⟩
  rcases hv1_2 with ⟨ho1_2, rfl⟩ | ⟨ho1_2, rfl⟩
  · skip
    refine xl_pure rfl rfl rfl (pv_move (v := .tuple _) rfl rfl) ?_
    refine xl_pure rfl rfl rfl (pv_extract (v := .int _ _) rfl rfl rfl) ?_
    refine xl_pure rfl rfl rfl (pv_extract (v := .int _ _) rfl rfl rfl) ?_
    refine xl_pure rfl rfl rfl (pv_assign (v := .int _ _) rfl rfl) ?_
    refine xl_pure rfl rfl rfl (pv_assign (v := .int _ _) rfl rfl) ?_
    refine xl_nil ?_
    refine xthen_normal ?_
    refine xc_seq ?_
    refine xc_seq ?_
    refine xc_region ?_
    refine xl_pure rfl rfl rfl (pv_move (v := .int _ _) rfl rfl) ?_
    refine xl_ndec rfl rfl rfl (pv_neq rfl rfl rfl) (fun h2_1 => ?_) (fun h2_1 => ?_)
    · skip
      refine xl_nil ?_
      refine xthen_normal ?_
      refine xc_cond_f rfl ?_
      refine xc_skip ?_
      refine xthen_normal ?_
      refine xc_seq ?_
      refine xc_region ?_
      refine xl_pure rfl rfl rfl (pv_move (v := .pointer _) rfl rfl) ?_
      refine xl_pure rfl rfl rfl (pv_move (v := .int _ _) rfl rfl) ?_
      refine xl_pure rfl rfl rfl (pv_move (v := .int _ _) rfl rfl) ?_
      refine xl_heavy rfl rfl rfl (hv_call (g := 52) rfl rfl (c52 (owN w i) p) rfl) ?_
      rintro v4_3 H4_3 ⟨rfl, hE4_3⟩
      have mp := mp.ext hE4_3
      have hR := hR.ext hE4_3
      have hX := hX.trans hE4_3
      have hX0 := hX
      refine xl_heavy rfl rfl rfl (hv_call (g := 51) rfl rfl (c51 mp hR hc hna hl hg.srt (owN w i) 0 p 1) rfl) ?_
      rintro v4_4 H4_4 ⟨a4_4, c4_4, rfl, hQ4_4, hE4_4⟩
      have mp := mp.ext hE4_4
      have hR := hR.ext hE4_4
      have hX := hX.trans hE4_4
      refine xl_pure rfl rfl rfl (pv_assign (v := .slice _ _ _) rfl rfl) ?_
      refine xl_nil ?_
      refine xthen_normal ?_
      refine xc_ret ?_
      refine fin_ret (res1 (v := .slice _ _ _) rfl rfl) ?_
      exact ⟨_, _, slv (by rw [hd_go ho1_2]), by rw [hd_go ho1_2]; exact hQ4_4.mono hX0.size, hX⟩
    · exact absurd (by decide) h2_1
  · skip
    refine xl_pure rfl rfl rfl (pv_move (v := .tuple _) rfl rfl) ?_
    refine xl_pure rfl rfl rfl (pv_extract (v := .int _ _) rfl rfl rfl) ?_
    refine xl_pure rfl rfl rfl (pv_extract (v := .int _ _) rfl rfl rfl) ?_
    refine xl_pure rfl rfl rfl (pv_assign (v := .int _ _) rfl rfl) ?_
    refine xl_pure rfl rfl rfl (pv_assign (v := .int _ _) rfl rfl) ?_
    refine xl_nil ?_
    refine xthen_normal ?_
    refine xc_seq ?_
    refine xc_seq ?_
    refine xc_region ?_
    refine xl_pure rfl rfl rfl (pv_move (v := .int _ _) rfl rfl) ?_
    refine xl_ndec rfl rfl rfl (pv_neq rfl rfl rfl) (fun h2_1 => ?_) (fun h2_1 => ?_)
    · exact absurd h2_1 (by decide)
    · skip
      refine xl_nil ?_
      refine xthen_normal ?_
      refine xc_cond_t rfl ?_
      refine xc_seq ?_
      refine xc_region ?_
      refine xl_pure rfl rfl rfl (pv_assign (v := .slice _ _ _) rfl rfl) ?_
      refine xl_nil ?_
      refine xthen_normal ?_
      refine xc_ret ?_
      refine xthen_ret ?_
      refine fin_ret (res1 (v := .slice _ _ _) rfl rfl) ?_
      exact ⟨none, 0, by rw [hd_no ho1_2]; rfl, by rw [hd_no ho1_2]; exact StksN.nil, hX⟩

theorem c21 {O : Outer} {H : Heap} {bp c : Nat} {a : Option Addr} {l : List (List Int)} {T : List Int} (mp : Blk H bp (.slice a (l).length c :: ints (T)) 87) (hR : RowsT H 138 5 a l) (hc : l.length ≤ c) (hna : a = none → c = 0) (hl : l.length < 200000) (hg : GooL l) (ht : Tots l T) (w i p : Int) :
    FnC Try.prog 21 #[.pointer (some ⟨bp, 0, none⟩), .int .i64 w, .int .i64 i, .int .i64 p] O H (fun v H' => ∃ sa' sc' a' c' T', v = .tuple #[.slice sa' (coS l w i p).length sc', .int .i64 (coE w i p)] ∧ StksN H' H.size sa' (coS l w i p) ∧ But bp H H' ∧ Blk H' bp (.slice a' (coX l w i p).length c' :: ints (T')) 87 ∧ RowsT H' 138 5 a' (coX l w i p) ∧ (coX l w i p).length ≤ c' ∧ (a' = none → c' = 0) ∧ Tots (coX l w i p) T') := by
  have hSl := ofS_len (l := l) (k0 := owN w i) (k1 := 0) (k2 := p)
  have hlt0 := mp.lt
  refine fn_enter (A := [.pointer (some ⟨bp, 0, none⟩), .int .i64 w, .int .i64 i, .int .i64 p]) Try.func21 rfl rfl ?_
  have hX := But.refl bp H
  refine xc_seq ?_
  refine xc_region ?_
  refine xl_pure rfl rfl rfl (pv_assign (v := .slice _ _ _) rfl rfl) ?_
  refine xl_pure rfl rfl rfl (pv_assign (v := .int _ _) rfl rfl) ?_
  refine xl_nil ?_
  refine xthen_normal ?_
  refine xc_seq ?_
  refine xc_region ?_
  refine xl_pure rfl rfl rfl (pv_move (v := .int _ _) rfl rfl) ?_
  refine xl_pure rfl rfl rfl (pv_move (v := .int _ _) rfl rfl) ?_
  refine xl_heavy rfl rfl rfl (hv_call (g := 7) rfl rfl (c7 (w) (i)) rfl) ?_
  rintro v1_2 H1_2 ⟨hv1_2, rfl⟩
  rcases hv1_2 with ⟨ho1_2, rfl⟩ | ⟨ho1_2, rfl⟩
  · skip
    refine xl_pure rfl rfl rfl (pv_move (v := .tuple _) rfl rfl) ?_
    refine xl_pure rfl rfl rfl (pv_extract (v := .int _ _) rfl rfl rfl) ?_
    refine xl_pure rfl rfl rfl (pv_extract (v := .int _ _) rfl rfl rfl) ?_
    refine xl_pure rfl rfl rfl (pv_assign (v := .int _ _) rfl rfl) ?_
    refine xl_pure rfl rfl rfl (pv_assign (v := .int _ _) rfl rfl) ?_
    refine xl_nil ?_
    refine xthen_normal ?_
    refine xc_seq ?_
    refine xc_seq ?_
    refine xc_region ?_
    refine xl_pure rfl rfl rfl (pv_move (v := .int _ _) rfl rfl) ?_
    refine xl_ndec rfl rfl rfl (pv_neq rfl rfl rfl) (fun h2_1 => ?_) (fun h2_1 => ?_)
    · skip
      refine xl_pure rfl rfl rfl (pv_move (v := .bool _) rfl rfl) ?_
      refine xl_pure rfl rfl rfl (pv_move (v := .pointer _) rfl rfl) ?_
      refine xl_pure rfl rfl rfl (pv_eql_pn rfl rfl rfl) ?_
      refine xl_pure rfl rfl rfl (pv_pick_f (v := .bool _) rfl rfl rfl) ?_
      refine xl_pure rfl rfl rfl (pv_move (v := .bool _) rfl rfl) ?_
      refine xl_pure rfl rfl rfl (pv_move (v := .int _ _) rfl rfl) ?_
      refine xl_heavy rfl rfl rfl (hv_call (g := 61) rfl rfl (c61 p) rfl) ?_
      rintro v2_8 H2_8 ⟨hv2_8, rfl⟩
      rcases hv2_8 with ⟨hi2_8, rfl⟩ | ⟨hi2_8, rfl⟩
      · skip
        refine xl_pure rfl rfl rfl (pv_not rfl rfl) ?_
        refine xl_pure rfl rfl rfl (pv_pick_f (v := .bool _) rfl rfl rfl) ?_
        refine xl_nil ?_
        refine xthen_normal ?_
        refine xc_cond_f rfl ?_
        refine xc_skip ?_
        refine xthen_normal ?_
        refine xc_cut (τ := Option Addr × Nat) (fun t => [(0, .pointer (some ⟨bp, 0, none⟩)), (3, .int .i64 p), (10, .int .i64 (owN w i)), (12, .slice t.1 (ofS l (owN w i) 0 p).length t.2)]) (fun t H' => (StksN H' H.size t.1 (ofS l (owN w i) 0 p)) ∧ (Blk H' bp (.slice a (l).length c :: ints (T)) 87) ∧ (RowsT H' 138 5 a l) ∧ (But bp H H')) ?_ ?_
        · skip
          refine xc_region ?_
          refine xl_pure rfl rfl rfl (pv_move (v := .pointer _) rfl rfl) ?_
          refine xl_pure rfl rfl rfl (pv_move (v := .int _ _) rfl rfl) ?_
          refine xl_pure rfl rfl rfl (pv_move (v := .int _ _) rfl rfl) ?_
          refine xl_heavy rfl rfl rfl (hv_call (g := 52) rfl rfl (c52 (owN w i) p) rfl) ?_
          rintro v4_3 H4_3 ⟨rfl, hE4_3⟩
          have mp := mp.ext hE4_3
          have hR := hR.ext hE4_3
          have hX := hX.transE hE4_3
          have hX0 := hX
          refine xl_heavy rfl rfl rfl (hv_call (g := 51) rfl rfl (c51 mp hR hc hna (by omega) hg.srt (owN w i) 0 p 1) rfl) ?_
          rintro v4_4 H4_4 ⟨a4_4, c4_4, rfl, hQ4_4, hE4_4⟩
          have mp := mp.ext hE4_4
          have hR := hR.ext hE4_4
          have hX := hX.transE hE4_4
          refine xl_pure rfl rfl rfl (pv_assign (v := .slice _ _ _) rfl rfl) ?_
          refine xl_nil ?_
          refine xthen_normal ?_
          exact ⟨(_, _), ⟨rfl, rfl, rfl, rfl, trivial⟩, ⟨hQ4_4.mono hX0.size, mp, hR, hX⟩⟩
        · intro σ
          clear hX mp hR
          rintro ⟨qa, qc⟩ Hm4 ⟨hQ, mp, hR, hX⟩
          replace hQ : StksN Hm4 H.size qa (ofS l (owN w i) 0 p) := hQ
          replace mp : Blk Hm4 bp (.slice a (l).length c :: ints (T)) 87 := mp
          replace hR : RowsT Hm4 138 5 a l := hR
          replace hX : But bp H Hm4 := hX
          show XC _ _ _ (upds σ [(0, .pointer (some ⟨bp, 0, none⟩)), (3, .int .i64 p), (10, .int .i64 (owN w i)), (12, .slice qa (ofS l (owN w i) 0 p).length qc)]) _
          have hX0 := hX
          replace hX := But.refl bp Hm4
          refine xc_seq ?_
          refine xc_seq ?_
          refine xc_region ?_
          refine xl_pure rfl rfl rfl (pv_move (v := .slice _ _ _) rfl rfl) ?_
          refine xl_pure rfl rfl rfl (pv_len_l rfl rfl) ?_
          refine xl_pure rfl rfl rfl (pv_move (v := .int _ _) rfl rfl) ?_
          refine xl_nil ?_
          refine xthen_normal ?_
          refine xc_block ?_
          refine xc_loop (τ := Nat × Option Addr × Nat × List Int) (fun t => [(0, .pointer (some ⟨bp, 0, none⟩)), (3, .int .i64 p), (10, .int .i64 (owN w i)), (12, .slice qa (ofS l (owN w i) 0 p).length qc), (38, .slice qa (ofS l (owN w i) 0 p).length qc), (39, .int .i64 ((ofS l (owN w i) 0 p).length : Nat)), (40, .int .i64 (t.1 : Nat))]) (fun t H' => (t.1 ≤ (ofS l (owN w i) 0 p).length) ∧ (Blk H' bp (.slice t.2.1 ((runX false (owN w i) 0 p l ((ofS l (owN w i) 0 p).take t.1))).length t.2.2.1 :: ints (t.2.2.2)) 87) ∧ (RowsT H' 138 5 t.2.1 (runX false (owN w i) 0 p l ((ofS l (owN w i) 0 p).take t.1))) ∧ ((runX false (owN w i) 0 p l ((ofS l (owN w i) 0 p).take t.1)).length ≤ t.2.2.1) ∧ (t.2.1 = none → t.2.2.1 = 0) ∧ (Tots (runX false (owN w i) 0 p l ((ofS l (owN w i) 0 p).take t.1)) t.2.2.2) ∧ (But bp Hm4 H')) (fun t H' => (ofS l (owN w i) 0 p).length - t.1) (0, a, c, T) ?_ ?_ ?_
          · exact ⟨rfl, rfl, rfl, rfl, rfl, rfl, rfl, trivial⟩
          · skip
            exact ⟨Nat.zero_le _, mp, hR, hc, hna, ht, hX⟩
          · intro σ
            clear hX mp hR
            rintro ⟨j, a1, c1, T1⟩ Hl6 ⟨hj, mp, hR, hc1, hna1, hty, hX⟩
            replace hj : j ≤ (ofS l (owN w i) 0 p).length := hj
            replace mp : Blk Hl6 bp (.slice a1 ((runX false (owN w i) 0 p l ((ofS l (owN w i) 0 p).take j))).length c1 :: ints (T1)) 87 := mp
            replace hR : RowsT Hl6 138 5 a1 (runX false (owN w i) 0 p l ((ofS l (owN w i) 0 p).take j)) := hR
            replace hc1 : (runX false (owN w i) 0 p l ((ofS l (owN w i) 0 p).take j)).length ≤ c1 := hc1
            replace hna1 : a1 = none → c1 = 0 := hna1
            replace hty : Tots (runX false (owN w i) 0 p l ((ofS l (owN w i) 0 p).take j)) T1 := hty
            replace hX : But bp Hm4 Hl6 := hX
            obtain ⟨sb, so, hse⟩ := (hQ.but hX hlt0).st.at'
            obtain ⟨hgy, hly⟩ := goo_runs (d := false) (k0 := owN w i) (k1 := 0) (k2 := p) hg hj
            show XC _ _ _ (upds σ [(0, .pointer (some ⟨bp, 0, none⟩)), (3, .int .i64 p), (10, .int .i64 (owN w i)), (12, .slice qa (ofS l (owN w i) 0 p).length qc), (38, .slice qa (ofS l (owN w i) 0 p).length qc), (39, .int .i64 ((ofS l (owN w i) 0 p).length : Nat)), (40, .int .i64 (j : Nat))]) _
            refine xc_seq ?_
            refine xc_region ?_
            refine xl_dec rfl rfl rfl (pv_lss rfl rfl rfl) (fun h6_0 => ?_) (fun h6_0 => ?_)
            · skip
              refine xl_nil ?_
              refine xthen_normal ?_
              refine xc_seq ?_
              refine xc_cond_t rfl ?_
              refine xc_skip ?_
              refine xthen_normal ?_
              refine xc_seq ?_
              refine xc_block ?_
              refine xc_seq ?_
              refine xc_region ?_
              refine xl_pure rfl rfl rfl (pv_indexAddr_l rfl (sl_eq (hse (by omega)).1) rfl (by omega)) ?_
              refine xl_light rfl rfl rfl (lv_load (v := .agg _) rfl rfl (by exact ld_stk (hse (by omega)).2 (by omega))) ?_
              refine xl_heavy rfl rfl rfl (hv_alloc rfl rfl) ?_
              rintro v7_2 H7_2 ⟨b7_2, rfl, hN7_2⟩
              have gb7_2 := hX.fresh hN7_2
              have nmp_7_2 := mp.apart hN7_2
              have mp := mp.ext hN7_2.ext
              have hR := hR.ext hN7_2.ext
              have hX := hX.transE hN7_2.ext
              have m7_2 := hN7_2.blk
              refine xl_store rfl rfl (hv_storeA (vs := [.int _ _, .int _ _]) rfl rfl rfl (m7_2) rfl (by rfl) rfl) ?_
              rintro v7_3 H7_3 ⟨hU7_3, hZ7_3⟩
              have mp := mp.off hU7_3.but (by first | exact nmp_7_2 | exact ⟨mp.ne m7_2 rfl⟩ | exact ⟨mp.ne m7_2 (by assumption)⟩ | exact ⟨Ne.symm (m7_2.ne mp (by assumption))⟩)
              have hR := hR.offT m7_2 hU7_3.but (by first | rfl | assumption)
              have hX := hX.upd hU7_3.but gb7_2
              have m7_2 := hU7_3.blk
              refine xl_nil ?_
              refine xthen_normal ?_
              refine xc_seq ?_
              refine xc_region ?_
              refine xl_pure rfl rfl rfl (pv_move (v := .int _ _) rfl rfl) ?_
              refine xl_pure rfl rfl rfl (pv_move (v := .int _ _) rfl rfl) ?_
              refine xl_heavy rfl rfl rfl (hv_call (g := 52) rfl rfl (c52 (owN w i) p) rfl) ?_
              rintro v8_2 H8_2 ⟨rfl, hE8_2⟩
              have mp := mp.ext hE8_2
              have hR := hR.ext hE8_2
              have m7_2 := m7_2.ext hE8_2
              have hX := hX.transE hE8_2
              refine xl_heavy rfl rfl rfl (hv_alloc rfl rfl) ?_
              rintro v8_3 H8_3 ⟨b8_3, rfl, hN8_3⟩
              have gb8_3 := hX.fresh hN8_3
              have nmp_8_3 := mp.apart hN8_3
              have nm7_2_8_3 := m7_2.apart hN8_3
              have mp := mp.ext hN8_3.ext
              have hR := hR.ext hN8_3.ext
              have m7_2 := m7_2.ext hN8_3.ext
              have hX := hX.transE hN8_3.ext
              have m8_3 := hN8_3.blk
              refine xl_store rfl rfl (hv_storeA (vs := [.int _ _, .int _ _, .int _ _, .int _ _]) rfl rfl rfl (m8_3) rfl (by rfl) rfl) ?_
              rintro v8_4 H8_4 ⟨hU8_4, hZ8_4⟩
              have mp := mp.off hU8_4.but (by first | exact nmp_8_3 | exact ⟨mp.ne m8_3 rfl⟩ | exact ⟨mp.ne m8_3 (by assumption)⟩ | exact ⟨Ne.symm (m8_3.ne mp (by assumption))⟩)
              have hR := hR.offT m8_3 hU8_4.but (by first | rfl | assumption)
              have m7_2 := m7_2.off hU8_4.but (by first | exact nm7_2_8_3 | exact ⟨m7_2.ne m8_3 rfl⟩ | exact ⟨m7_2.ne m8_3 (by assumption)⟩ | exact ⟨Ne.symm (m8_3.ne m7_2 (by assumption))⟩)
              have hX := hX.upd hU8_4.but gb8_3
              have m8_3 := hU8_4.blk
              refine xl_nil ?_
              refine xthen_normal ?_
              refine xc_seq ?_
              refine xc_region ?_
              refine xl_pure rfl rfl rfl (pv_fieldAddr rfl rfl) ?_
              refine xl_light rfl rfl rfl (lv_load (v := .int _ _) rfl rfl (ld_blk m7_2 rfl)) ?_
              refine xl_pure rfl rfl rfl (pv_fieldAddr rfl rfl) ?_
              refine xl_store rfl rfl (hv_store (vs := [.int _ _]) rfl rfl rfl (m8_3) rfl (Nat.le_of_ble_eq_true rfl) rfl) ?_
              rintro v9_3 H9_3 ⟨hU9_3, hZ9_3⟩
              have mp := mp.off hU9_3.but (by first | exact nmp_8_3 | exact ⟨mp.ne m8_3 rfl⟩ | exact ⟨mp.ne m8_3 (by assumption)⟩ | exact ⟨Ne.symm (m8_3.ne mp (by assumption))⟩)
              have hR := hR.offT m8_3 hU9_3.but (by first | rfl | assumption)
              have m7_2 := m7_2.off hU9_3.but (by first | exact nm7_2_8_3 | exact ⟨m7_2.ne m8_3 rfl⟩ | exact ⟨m7_2.ne m8_3 (by assumption)⟩ | exact ⟨Ne.symm (m8_3.ne m7_2 (by assumption))⟩)
              have hX := hX.upd hU9_3.but gb8_3
              have m8_3 := hU9_3.blk
              refine xl_nil ?_
              refine xthen_normal ?_
              refine xc_region ?_
              refine xl_pure rfl rfl rfl (pv_move (v := .pointer _) rfl rfl) ?_
              refine xl_light rfl rfl rfl (lv_load (v := .agg _) rfl rfl (ld_blk_a m8_3 rfl rfl)) ?_
              refine xl_pure rfl rfl rfl (pv_fieldAddr rfl rfl) ?_
              refine xl_light rfl rfl rfl (lv_load (v := .int _ _) rfl rfl (ld_blk m7_2 rfl)) ?_
              refine xl_heavy rfl rfl rfl (hv_call (g := 62) rfl rfl (c62 (l := (runX false (owN w i) 0 p l ((ofS l (owN w i) 0 p).take j))) mp hR hc1 hna1 (by omega) hgy hty (owN w i) 0 p (gx (ofS l (owN w i) 0 p) j) (gq (ofS l (owN w i) 0 p) j)) rfl) ?_
              rintro v10_4 H10_4 ⟨a10_4, c10_4, T10_4, rfl, hB10_4, hT10_4, hR10_4, hc10_4, hna10_4, ht10_4⟩
              have hR := hR.offT mp hB10_4 (by first | rfl | assumption)
              have m7_2 := m7_2.off hB10_4 (by first | exact nmp_7_2.symm | exact ⟨m7_2.ne mp rfl⟩ | exact ⟨m7_2.ne mp (by assumption)⟩ | exact ⟨Ne.symm (mp.ne m7_2 (by assumption))⟩)
              have m8_3 := m8_3.off hB10_4 (by first | exact nmp_8_3.symm | exact ⟨m8_3.ne mp rfl⟩ | exact ⟨m8_3.ne mp (by assumption)⟩ | exact ⟨Ne.symm (mp.ne m8_3 (by assumption))⟩)
              have hX := hX.trans hB10_4
              have mp := hT10_4
              refine xl_nil ?_
              refine xblock_normal ?_
              refine xthen_normal ?_
              refine xc_region ?_
              refine xl_pure rfl rfl rfl (pv_add rfl rfl rfl (fit_i64 (by omega))) ?_
              refine xl_pure rfl rfl rfl (pv_move (v := .int _ _) rfl rfl) ?_
              refine xl_nil ?_
              refine xthen_normal ?_
              exact ⟨(j + 1, _, _, _), ⟨rfl, rfl, rfl, rfl, rfl, rfl, rfl, trivial⟩, ⟨by (try simp only); omega, by rw [run_take (by omega)]; exact mp, by rw [run_take (by omega)]; exact hR10_4, by rw [run_take (by omega)]; exact hc10_4, hna10_4, by rw [run_take (by omega)]; exact ht10_4, hX⟩, by (try simp only); omega⟩
            · skip
              refine xl_nil ?_
              refine xthen_normal ?_
              refine xc_seq ?_
              refine xc_cond_f rfl ?_
              refine xc_exit ?_
              refine xthen_exit ?_
              refine xthen_exit ?_
              refine xblock_same ?_
              refine xthen_normal ?_
              refine xc_seq ?_
              refine xc_region ?_
              refine xl_pure rfl rfl rfl (pv_move (v := .slice _ _ _) rfl rfl) ?_
              refine xl_pure rfl rfl rfl (pv_assign (v := .slice _ _ _) rfl rfl) ?_
              refine xl_pure rfl rfl rfl (pv_assign (v := .int _ _) rfl rfl) ?_
              refine xl_nil ?_
              refine xthen_normal ?_
              refine xc_ret ?_
              refine fin_ret (res2 (v := .slice _ _ _) (x := .int _ _) rfl rfl rfl) ?_
              obtain rfl : j = (ofS l (owN w i) 0 p).length := by omega
              obtain ⟨e1, e2, e3⟩ := co_go (l := l) (w := w) (i := i) (p := p) ⟨ho1_2, hi2_8⟩
              rw [List.take_length] at mp hR hc1 hty
              exact ⟨qa, qc, _, _, _, by rw [e1, e2], by rw [e2]; exact hQ.but hX hlt0, hX0.trans hX, by rw [e3]; exact mp, by rw [e3]; exact hR, by rw [e3]; exact hc1, hna1, by rw [e3]; exact hty⟩
      · skip
        refine xl_pure rfl rfl rfl (pv_not rfl rfl) ?_
        refine xl_pure rfl rfl rfl (pv_pick_f (v := .bool _) rfl rfl rfl) ?_
        refine xl_nil ?_
        refine xthen_normal ?_
        refine xc_cond_t rfl ?_
        refine xc_seq ?_
        refine xc_region ?_
        refine xl_pure rfl rfl rfl (pv_assign (v := .slice _ _ _) rfl rfl) ?_
        refine xl_pure rfl rfl rfl (pv_assign (v := .int _ _) rfl rfl) ?_
        refine xl_nil ?_
        refine xthen_normal ?_
        refine xc_ret ?_
        refine xthen_ret ?_
        refine fin_ret (res2 (v := .slice _ _ _) (x := .int _ _) rfl rfl rfl) ?_
        obtain ⟨e1, e2, e3⟩ := co_no (l := l) (w := w) (i := i) (p := p) (fun h => by first | exact ho1_2 h.1 | exact hi2_8 h.2)
        exact ⟨none, 0, a, c, T, by rw [e1, e2]; rfl, by rw [e2]; exact StksN.nil, hX, by rw [e3]; exact mp, by rw [e3]; exact hR, by rw [e3]; exact hc, hna, by rw [e3]; exact ht⟩
    · exact absurd (by decide) h2_1
  · skip
    refine xl_pure rfl rfl rfl (pv_move (v := .tuple _) rfl rfl) ?_
    refine xl_pure rfl rfl rfl (pv_extract (v := .int _ _) rfl rfl rfl) ?_
    refine xl_pure rfl rfl rfl (pv_extract (v := .int _ _) rfl rfl rfl) ?_
    refine xl_pure rfl rfl rfl (pv_assign (v := .int _ _) rfl rfl) ?_
    refine xl_pure rfl rfl rfl (pv_assign (v := .int _ _) rfl rfl) ?_
    refine xl_nil ?_
    refine xthen_normal ?_
    refine xc_seq ?_
    refine xc_seq ?_
    refine xc_region ?_
    refine xl_pure rfl rfl rfl (pv_move (v := .int _ _) rfl rfl) ?_
    refine xl_ndec rfl rfl rfl (pv_neq rfl rfl rfl) (fun h2_1 => ?_) (fun h2_1 => ?_)
    · exact absurd h2_1 (by decide)
    · skip
      refine xl_pure rfl rfl rfl (pv_move (v := .bool _) rfl rfl) ?_
      refine xl_skip rfl rfl rfl ?_
      refine xl_skip rfl rfl rfl ?_
      refine xl_pure rfl rfl rfl (pv_pick_t (v := .bool _) rfl rfl rfl) ?_
      refine xl_pure rfl rfl rfl (pv_move (v := .bool _) rfl rfl) ?_
      refine xl_skip rfl rfl rfl ?_
      refine xl_skip rfl rfl rfl ?_
      refine xl_skip rfl rfl rfl ?_
      refine xl_pure rfl rfl rfl (pv_pick_t (v := .bool _) rfl rfl rfl) ?_
      refine xl_nil ?_
      refine xthen_normal ?_
      refine xc_cond_t rfl ?_
      refine xc_seq ?_
      refine xc_region ?_
      refine xl_pure rfl rfl rfl (pv_assign (v := .slice _ _ _) rfl rfl) ?_
      refine xl_pure rfl rfl rfl (pv_assign (v := .int _ _) rfl rfl) ?_
      refine xl_nil ?_
      refine xthen_normal ?_
      refine xc_ret ?_
      refine xthen_ret ?_
      refine fin_ret (res2 (v := .slice _ _ _) (x := .int _ _) rfl rfl rfl) ?_
      obtain ⟨e1, e2, e3⟩ := co_no (l := l) (w := w) (i := i) (p := p) (fun h => by first | exact ho1_2 h.1 | exact hi2_8 h.2)
      exact ⟨none, 0, a, c, T, by rw [e1, e2]; rfl, by rw [e2]; exact StksN.nil, hX, by rw [e3]; exact mp, by rw [e3]; exact hR, by rw [e3]; exact hc, hna, by rw [e3]; exact ht⟩

theorem keep_stk {H H1 : Heap} {p q : Nat} {a : Option Addr} {s : List Stack} (h : StksO H p a s) (h' : StksO H q a s) (k : KeepF (fun b => b = p ∨ b = q) H H1) : Stks H1 a s := by
  rcases h.st with h0 | ⟨g, o, h1, h2⟩
  · exact .inl h0
  · rcases Nat.eq_zero_or_pos s.length with h0 | h0
    · exact .inl h0
    · have hn : ¬ (g = p ∨ g = q) := fun hh => hh.elim (h.off g o h1 h0) (h'.off g o h1 h0)
      have hk : ∀ {i : Nat} {v : Value}, cellAt H g i = some v → cellAt H1 g i = some v := fun {i v} hc => by
        have := k.same g (cellAt_lt hc) hn
        unfold cellAt at *
        rw [this]; exact hc
      exact .inr ⟨g, o, h1, fun i hi => ⟨hk (h2 i hi).1, hk (h2 i hi).2⟩⟩
theorem But.keep {H H1 H2 : Heap} {p q : Nat} (h : But p H H1) (k : KeepF (fun b => b = p ∨ b = q) H1 H2) (f : Fresh H q) : But p H H2 :=
  ⟨Nat.le_trans h.size k.size, fun i hi hne => (k.same i (Nat.lt_of_lt_of_le hi h.size) (fun hh => hh.elim hne (fun e => by have := f.le; omega))).trans (h.same i hi hne)⟩

theorem c19 {O : Outer} {H : Heap} {bp c : Nat} {a : Option Addr} {l : List (List Int)} {T : List Int} (mp : Blk H bp (.slice a (l).length c :: ints (T)) 87) (hR : RowsT H 138 5 a l) (hc : l.length ≤ c) (hna : a = none → c = 0) (hl : l.length < 200000) (hg : GooL l) (ht : Tots l T) (w i p t0 t1 t2 t3 : Int) :
    FnC Try.prog 19 #[.pointer (some ⟨bp, 0, none⟩), .int .i64 w, .int .i64 i, .int .i64 p, .agg #[.int .i64 t0, .int .i64 t1, .int .i64 t2, .int .i64 t3]] O H (fun v H' => ∃ a' c' T', v = .int .i64 (reE w i p t0 t1 t2) ∧ But bp H H' ∧ Blk H' bp (.slice a' (reX l w i p t0 t1 t2).length c' :: ints (T')) 87 ∧ RowsT H' 138 5 a' (reX l w i p t0 t1 t2) ∧ (reX l w i p t0 t1 t2).length ≤ c' ∧ (a' = none → c' = 0) ∧ Tots (reX l w i p t0 t1 t2) T') := by
  have hSl := co_len (l := l) (w := w) (i := i) (p := p)
  refine fn_enter (A := [.pointer (some ⟨bp, 0, none⟩), .int .i64 w, .int .i64 i, .int .i64 p, .agg #[.int .i64 t0, .int .i64 t1, .int .i64 t2, .int .i64 t3]]) Try.func19 rfl rfl ?_
  have hX := But.refl bp H
  refine xc_seq ?_
  refine xc_region ?_
  refine xl_heavy rfl rfl rfl (hv_box rfl rfl) ?_
  rintro v0_0 H0_0 ⟨b0_0, rfl, hN0_0⟩
  have gb0_0 := hX.fresh hN0_0
  have nmp_0_0 := mp.apart hN0_0
  have mp := mp.ext hN0_0.ext
  have hR := hR.ext hN0_0.ext
  have hX := hX.transE hN0_0.ext
  have m0_0 := hN0_0.blk
  refine xl_pure rfl rfl rfl (pv_assign (v := .int _ _) rfl rfl) ?_
  refine xl_nil ?_
  refine xthen_normal ?_
  refine xc_seq ?_
  refine xc_region ?_
  refine xl_pure rfl rfl rfl (pv_fieldAddr rfl rfl) ?_
  refine xl_store rfl rfl (hv_store (vs := [.int _ _]) rfl rfl rfl (m0_0) rfl (Nat.le_of_ble_eq_true rfl) rfl) ?_
  rintro v1_1 H1_1 ⟨hU1_1, hZ1_1⟩
  have mp := mp.off hU1_1.but (by first | exact nmp_0_0 | exact ⟨mp.ne m0_0 rfl⟩ | exact ⟨mp.ne m0_0 (by assumption)⟩ | exact ⟨Ne.symm (m0_0.ne mp (by assumption))⟩)
  have hR := hR.offT m0_0 hU1_1.but (by first | rfl | assumption)
  have hX := hX.upd hU1_1.but gb0_0
  have m0_0 := hU1_1.blk
  refine xl_nil ?_
  refine xthen_normal ?_
  refine xc_seq ?_
  refine xc_seq ?_
  refine xp_start rfl (by repeat (first | with_reducible exact np_fin | with_reducible exact np_ret | with_reducible refine np_then ?_ | with_reducible refine np_block ?_)) (by kernel_rfl) ?_
  refine xp_pure (i := 0) rfl (by kernel_rfl) (by kernel_rfl) rfl rfl rfl (pv_fieldAddr rfl rfl) ?_
  refine xp_light (i := 1) rfl (by kernel_rfl) (by kernel_rfl) rfl rfl rfl (lv_load (v := .int _ _) rfl rfl (ld_blk m0_0 rfl)) ?_
  refine xp_pure (i := 2) rfl (by kernel_rfl) (by kernel_rfl) rfl rfl rfl (pv_move (v := .int _ _) rfl rfl) ?_
  refine xp_ndec (i := 3) rfl (by kernel_rfl) (by kernel_rfl) rfl rfl rfl (pv_neq rfl rfl rfl) (fun h2_3 => ?_) (fun h2_3 => ?_)
  · skip
    refine xp_pure (i := 4) rfl (by kernel_rfl) (by kernel_rfl) rfl rfl rfl (pv_move (v := .bool _) rfl rfl) ?_
    refine xp_pure (i := 5) rfl (by kernel_rfl) (by kernel_rfl) rfl rfl rfl (pv_move (v := .pointer _) rfl rfl) ?_
    refine xp_light (i := 7) rfl (by kernel_rfl) (by kernel_rfl) rfl rfl rfl (lv_load (v := .agg _) rfl rfl (ld_blk_a m0_0 rfl rfl)) ?_
    refine xp_heavy (i := 6) (by kernel_rfl) ?_
    refine xph_val rfl rfl rfl rfl (hv_call (g := 60) rfl rfl (c60 mp hR hc hna (by omega) hg.srt ht.len) rfl) (pk (by kernel_rfl) (pk (by kernel_rfl) pn)) ?_
    rintro v2_6 H2_6 ⟨b2_6, rfl, m2_6, hF2_6, hE2_6⟩
    have gb2_6 : Fresh H b2_6 := ⟨Nat.le_trans hX.size hF2_6.le⟩
    have nmp_2_6 : Apart bp b2_6 := ⟨Nat.ne_of_lt (Nat.lt_of_lt_of_le mp.lt hF2_6.le)⟩
    have mp := mp.ext hE2_6
    have hR := hR.ext hE2_6
    have m0_0 := m0_0.ext hE2_6
    have hX := hX.transE hE2_6
    refine ⟨(okc (lv_load (v := .agg _) rfl rfl (ld_blk_a m0_0 rfl rfl)) (okc (lv_load (v := .int _ _) rfl rfl (ld_blk m0_0 rfl)) okn)), ?_⟩
    refine xp_heavy (i := 8) (by kernel_rfl) ?_
    refine xph_val rfl rfl rfl rfl (hv_call (g := 40) rfl rfl (c40 m2_6 hR hc hna (by omega) hg ht t0 t1 t2 1 0 (by decide)) rfl) (pd (by kernel_rfl) (pk (by kernel_rfl) pn)) ?_
    rintro v2_8 H2_8 ⟨a2_8, c2_8, T2_8, rfl, hB2_8, hT2_8, hR2_8, hc2_8, hna2_8, ht2_8⟩
    have mp := mp.off hB2_8 (by first | exact nmp_2_6 | exact ⟨mp.ne m2_6 rfl⟩ | exact ⟨mp.ne m2_6 (by assumption)⟩ | exact ⟨Ne.symm (m2_6.ne mp (by assumption))⟩)
    have hR := hR.offT m2_6 hB2_8 (by first | rfl | assumption)
    have m0_0 := m0_0.off hB2_8 (by first | exact nm0_0_2_6 | exact ⟨m0_0.ne m2_6 rfl⟩ | exact ⟨m0_0.ne m2_6 (by assumption)⟩ | exact ⟨Ne.symm (m2_6.ne m0_0 (by assumption))⟩)
    have hX := hX.upd hB2_8 gb2_6
    have m2_6 := hT2_8
    refine ⟨(okc (lv_load (v := .int _ _) rfl rfl (ld_blk m0_0 rfl)) okn), ?_⟩
    refine xp_ndec (i := 9) rfl (by kernel_rfl) (by kernel_rfl) rfl rfl rfl (pv_neq rfl rfl rfl) (fun h2_9 => ?_) (fun h2_9 => ?_)
    · skip
      refine xp_pure (i := 10) rfl (by kernel_rfl) (by kernel_rfl) rfl rfl rfl (pv_pick_f (v := .bool _) rfl rfl rfl) ?_
      refine xp_done (by kernel_rfl) ?_
      refine xthen_normal ?_
      refine xc_cond_f rfl ?_
      refine xc_skip ?_
      refine xthen_normal ?_
      refine xc_cut (τ := Option Addr × Nat × Option Addr × Nat × List Int) (fun t => [(0, .pointer (some ⟨bp, 0, none⟩)), (9, .pointer (some ⟨b0_0, 0, none⟩)), (11, .slice t.1 (coS l w i p).length t.2.1), (12, .int .i64 (coE w i p))]) (fun t H' => (StksO H' bp t.1 (coS l w i p)) ∧ (StksO H' b0_0 t.1 (coS l w i p)) ∧ (Blk H' bp (.slice t.2.2.1 (coX l w i p).length t.2.2.2.1 :: ints (t.2.2.2.2)) 87) ∧ (RowsT H' 138 5 t.2.2.1 (coX l w i p)) ∧ ((coX l w i p).length ≤ t.2.2.2.1) ∧ (t.2.2.1 = none → t.2.2.2.1 = 0) ∧ (Tots (coX l w i p) t.2.2.2.2) ∧ (Blk H' b0_0 [.int .i64 t0, .int .i64 t1, .int .i64 t2, .int .i64 1] 37) ∧ (But bp H H')) ?_ ?_
      · skip
        have hlt1 := mp.lt
        have hlt2 := m0_0.lt
        refine xc_region ?_
        refine xl_pure rfl rfl rfl (pv_move (v := .pointer _) rfl rfl) ?_
        refine xl_pure rfl rfl rfl (pv_move (v := .int _ _) rfl rfl) ?_
        refine xl_pure rfl rfl rfl (pv_move (v := .int _ _) rfl rfl) ?_
        refine xl_pure rfl rfl rfl (pv_move (v := .int _ _) rfl rfl) ?_
        refine xl_heavy rfl rfl rfl (hv_call (g := 21) rfl rfl (c21 mp hR hc hna hl hg ht w i p) rfl) ?_
        rintro v4_4 H4_4 ⟨qa, qc, a4_4, c4_4, T4_4, rfl, hQ, hB4_4, hT4_4, hR4_4, hc4_4, hna4_4, ht4_4⟩
        have hR := hR.offT mp hB4_4 (by first | rfl | assumption)
        have m0_0 := m0_0.off hB4_4 (by first | exact nmp_0_0.symm | exact ⟨m0_0.ne mp rfl⟩ | exact ⟨m0_0.ne mp (by assumption)⟩ | exact ⟨Ne.symm (mp.ne m0_0 (by assumption))⟩)
        have m2_6 := m2_6.off hB4_4 (by first | exact nmp_2_6.symm | exact ⟨m2_6.ne mp rfl⟩ | exact ⟨m2_6.ne mp (by assumption)⟩ | exact ⟨Ne.symm (mp.ne m2_6 (by assumption))⟩)
        have hX := hX.trans hB4_4
        have mp := hT4_4
        refine xl_pure rfl rfl rfl (pv_move (v := .tuple _) rfl rfl) ?_
        refine xl_pure rfl rfl rfl (pv_extract (v := .slice _ _ _) rfl rfl rfl) ?_
        refine xl_pure rfl rfl rfl (pv_extract (v := .int _ _) rfl rfl rfl) ?_
        refine xl_pure rfl rfl rfl (pv_assign (v := .slice _ _ _) rfl rfl) ?_
        refine xl_pure rfl rfl rfl (pv_assign (v := .int _ _) rfl rfl) ?_
        refine xl_nil ?_
        refine xthen_normal ?_
        exact ⟨(_, _, _, _, _), ⟨rfl, rfl, rfl, rfl, trivial⟩, ⟨hQ.off hlt1, hQ.off hlt2, mp, hR4_4, hc4_4, hna4_4, ht4_4, m0_0, hX⟩⟩
      · intro σ
        clear hX mp hR m0_0 m2_6
        rintro ⟨qa, qc, a0, c0, T0⟩ Hm4 ⟨hQ, hQ0, mp, hR1, hc0, hna0, ht0, m0_0, hX⟩
        replace hQ : StksO Hm4 bp qa (coS l w i p) := hQ
        replace hQ0 : StksO Hm4 b0_0 qa (coS l w i p) := hQ0
        replace mp : Blk Hm4 bp (.slice a0 (coX l w i p).length c0 :: ints (T0)) 87 := mp
        replace hR1 : RowsT Hm4 138 5 a0 (coX l w i p) := hR1
        replace hc0 : (coX l w i p).length ≤ c0 := hc0
        replace hna0 : a0 = none → c0 = 0 := hna0
        replace ht0 : Tots (coX l w i p) T0 := ht0
        replace m0_0 : Blk Hm4 b0_0 [.int .i64 t0, .int .i64 t1, .int .i64 t2, .int .i64 1] 37 := m0_0
        replace hX : But bp H Hm4 := hX
        show XC _ _ _ (upds σ [(0, .pointer (some ⟨bp, 0, none⟩)), (9, .pointer (some ⟨b0_0, 0, none⟩)), (11, .slice qa (coS l w i p).length qc), (12, .int .i64 (coE w i p))]) _
        have hX0 := hX
        replace hX := KeepF.refl (fun b => b = bp ∨ b = b0_0) Hm4
        refine xc_seq ?_
        refine xc_seq ?_
        refine xc_region ?_
        refine xl_pure rfl rfl rfl (pv_move (v := .slice _ _ _) rfl rfl) ?_
        refine xl_pure rfl rfl rfl (pv_len_l rfl rfl) ?_
        refine xl_pure rfl rfl rfl (pv_move (v := .int _ _) rfl rfl) ?_
        refine xl_nil ?_
        refine xthen_normal ?_
        refine xc_block ?_
        refine xc_loop (τ := Nat × Option Addr × Nat × List Int × Int) (fun t => [(0, .pointer (some ⟨bp, 0, none⟩)), (9, .pointer (some ⟨b0_0, 0, none⟩)), (12, .int .i64 (coE w i p)), (35, .slice qa (coS l w i p).length qc), (36, .int .i64 ((coS l w i p).length : Nat)), (37, .int .i64 (t.1 : Nat))]) (fun t H' => (t.1 ≤ (coS l w i p).length) ∧ (Blk H' bp (.slice t.2.1 ((runX true t0 t1 t2 (coX l w i p) ((coS l w i p).take t.1))).length t.2.2.1 :: ints (t.2.2.2.1)) 87) ∧ (RowsT H' 138 5 t.2.1 (runX true t0 t1 t2 (coX l w i p) ((coS l w i p).take t.1))) ∧ ((runX true t0 t1 t2 (coX l w i p) ((coS l w i p).take t.1)).length ≤ t.2.2.1) ∧ (t.2.1 = none → t.2.2.1 = 0) ∧ (Tots (runX true t0 t1 t2 (coX l w i p) ((coS l w i p).take t.1)) t.2.2.2.1) ∧ (Blk H' b0_0 [.int .i64 t0, .int .i64 t1, .int .i64 t2, .int .i64 t.2.2.2.2] 37) ∧ (KeepF (fun b => b = bp ∨ b = b0_0) Hm4 H')) (fun t H' => (coS l w i p).length - t.1) (0, a0, c0, T0, 1) ?_ ?_ ?_
        · exact ⟨rfl, rfl, rfl, rfl, rfl, rfl, trivial⟩
        · skip
          exact ⟨Nat.zero_le _, mp, hR1, hc0, hna0, ht0, m0_0, hX⟩
        · intro σ
          clear hX mp m0_0 hR1
          rintro ⟨j, a1, c1, T1, x1⟩ Hl6 ⟨hj, mp, hR1, hc1, hna1, hty, m0_0, hX⟩
          replace hj : j ≤ (coS l w i p).length := hj
          replace mp : Blk Hl6 bp (.slice a1 ((runX true t0 t1 t2 (coX l w i p) ((coS l w i p).take j))).length c1 :: ints (T1)) 87 := mp
          replace hR1 : RowsT Hl6 138 5 a1 (runX true t0 t1 t2 (coX l w i p) ((coS l w i p).take j)) := hR1
          replace hc1 : (runX true t0 t1 t2 (coX l w i p) ((coS l w i p).take j)).length ≤ c1 := hc1
          replace hna1 : a1 = none → c1 = 0 := hna1
          replace hty : Tots (runX true t0 t1 t2 (coX l w i p) ((coS l w i p).take j)) T1 := hty
          replace m0_0 : Blk Hl6 b0_0 [.int .i64 t0, .int .i64 t1, .int .i64 t2, .int .i64 x1] 37 := m0_0
          replace hX : KeepF (fun b => b = bp ∨ b = b0_0) Hm4 Hl6 := hX
          obtain ⟨sb, so, hse⟩ := (keep_stk hQ hQ0 hX).at'
          obtain ⟨hgc, hlc⟩ := goo_co (w := w) (i := i) (p := p) hg
          obtain ⟨hgy, hly⟩ := goo_runs (d := true) (k0 := t0) (k1 := t1) (k2 := t2) hgc hj
          show XC _ _ _ (upds σ [(0, .pointer (some ⟨bp, 0, none⟩)), (9, .pointer (some ⟨b0_0, 0, none⟩)), (12, .int .i64 (coE w i p)), (35, .slice qa (coS l w i p).length qc), (36, .int .i64 ((coS l w i p).length : Nat)), (37, .int .i64 (j : Nat))]) _
          refine xc_seq ?_
          refine xc_region ?_
          refine xl_dec rfl rfl rfl (pv_lss rfl rfl rfl) (fun h6_0 => ?_) (fun h6_0 => ?_)
          · skip
            refine xl_nil ?_
            refine xthen_normal ?_
            refine xc_seq ?_
            refine xc_cond_t rfl ?_
            refine xc_skip ?_
            refine xthen_normal ?_
            refine xc_seq ?_
            refine xc_block ?_
            refine xc_seq ?_
            refine xc_region ?_
            refine xl_pure rfl rfl rfl (pv_indexAddr_l rfl (sl_eq (hse (by omega)).1) rfl (by omega)) ?_
            refine xl_light rfl rfl rfl (lv_load (v := .agg _) rfl rfl (by exact ld_stk (hse (by omega)).2 (by omega))) ?_
            refine xl_heavy rfl rfl rfl (hv_alloc rfl rfl) ?_
            rintro v7_2 H7_2 ⟨b7_2, rfl, hN7_2⟩
            have gb7_2 := hX.fresh hN7_2
            have nmp_7_2 := mp.apart hN7_2
            have nm0_0_7_2 := m0_0.apart hN7_2
            have mp := mp.ext hN7_2.ext
            have m0_0 := m0_0.ext hN7_2.ext
            have hR1 := hR1.ext hN7_2.ext
            have hX := hX.transE hN7_2.ext
            have m7_2 := hN7_2.blk
            refine xl_store rfl rfl (hv_storeA (vs := [.int _ _, .int _ _]) rfl rfl rfl (m7_2) rfl (by rfl) rfl) ?_
            rintro v7_3 H7_3 ⟨hU7_3, hZ7_3⟩
            have mp := mp.off hU7_3.but (by first | exact nmp_7_2 | exact ⟨mp.ne m7_2 rfl⟩ | exact ⟨mp.ne m7_2 (by assumption)⟩ | exact ⟨Ne.symm (m7_2.ne mp (by assumption))⟩)
            have m0_0 := m0_0.off hU7_3.but (by first | exact nm0_0_7_2 | exact ⟨m0_0.ne m7_2 rfl⟩ | exact ⟨m0_0.ne m7_2 (by assumption)⟩ | exact ⟨Ne.symm (m7_2.ne m0_0 (by assumption))⟩)
            have hR1 := hR1.offT m7_2 hU7_3.but (by first | rfl | assumption)
            have hX := hX.upd hU7_3.but gb7_2
            have m7_2 := hU7_3.blk
            refine xl_nil ?_
            refine xthen_normal ?_
            refine xc_seq ?_
            refine xc_region ?_
            refine xl_pure rfl rfl rfl (pv_fieldAddr rfl rfl) ?_
            refine xl_light rfl rfl rfl (lv_load (v := .int _ _) rfl rfl (ld_blk m7_2 rfl)) ?_
            refine xl_pure rfl rfl rfl (pv_fieldAddr rfl rfl) ?_
            refine xl_store rfl rfl (hv_store (vs := [.int _ _]) rfl rfl rfl (m0_0) rfl (Nat.le_of_ble_eq_true rfl) rfl) ?_
            rintro v8_3 H8_3 ⟨hU8_3, hZ8_3⟩
            have mp := mp.off hU8_3.but (by first | exact nmp_0_0 | exact ⟨mp.ne m0_0 rfl⟩ | exact ⟨mp.ne m0_0 (by assumption)⟩ | exact ⟨Ne.symm (m0_0.ne mp (by assumption))⟩)
            have hR1 := hR1.offT m0_0 hU8_3.but (by first | rfl | assumption)
            have m7_2 := m7_2.off hU8_3.but (by first | exact nm0_0_7_2.symm | exact ⟨m7_2.ne m0_0 rfl⟩ | exact ⟨m7_2.ne m0_0 (by assumption)⟩ | exact ⟨Ne.symm (m0_0.ne m7_2 (by assumption))⟩)
            have hX := hX.own hU8_3.but (.inr rfl)
            have m0_0 := hU8_3.blk
            refine xl_nil ?_
            refine xthen_normal ?_
            have hqj := coS_at (w := w) (i := i) (p := p) hg (show j < (coS l w i p).length by omega)
            refine xc_region ?_
            refine xl_pure rfl rfl rfl (pv_move (v := .pointer _) rfl rfl) ?_
            refine xl_light rfl rfl rfl (lv_load (v := .agg _) rfl rfl (ld_blk_a m0_0 rfl rfl)) ?_
            refine xl_pure rfl rfl rfl (pv_fieldAddr rfl rfl) ?_
            refine xl_light rfl rfl rfl (lv_load (v := .int _ _) rfl rfl (ld_blk m7_2 rfl)) ?_
            refine xl_heavy rfl rfl rfl (hv_call (g := 40) rfl rfl (c40 (l := (runX true t0 t1 t2 (coX l w i p) ((coS l w i p).take j))) mp hR1 hc1 hna1 (by omega) hgy hty t0 t1 t2 (gx (coS l w i p) j) (gq (coS l w i p) j) (by omega)) rfl) ?_
            rintro v9_4 H9_4 ⟨a9_4, c9_4, T9_4, rfl, hB9_4, hT9_4, hR9_4, hc9_4, hna9_4, ht9_4⟩
            have m0_0 := m0_0.off hB9_4 (by first | exact nmp_0_0.symm | exact ⟨m0_0.ne mp rfl⟩ | exact ⟨m0_0.ne mp (by assumption)⟩ | exact ⟨Ne.symm (mp.ne m0_0 (by assumption))⟩)
            have hR1 := hR1.offT mp hB9_4 (by first | rfl | assumption)
            have m7_2 := m7_2.off hB9_4 (by first | exact nmp_7_2.symm | exact ⟨m7_2.ne mp rfl⟩ | exact ⟨m7_2.ne mp (by assumption)⟩ | exact ⟨Ne.symm (mp.ne m7_2 (by assumption))⟩)
            have hX := hX.own hB9_4 (.inl rfl)
            have mp := hT9_4
            refine xl_nil ?_
            refine xblock_normal ?_
            refine xthen_normal ?_
            refine xc_region ?_
            refine xl_pure rfl rfl rfl (pv_add rfl rfl rfl (fit_i64 (by omega))) ?_
            refine xl_pure rfl rfl rfl (pv_move (v := .int _ _) rfl rfl) ?_
            refine xl_nil ?_
            refine xthen_normal ?_
            exact ⟨(j + 1, _, _, _, _), ⟨rfl, rfl, rfl, rfl, rfl, rfl, trivial⟩, ⟨by (try simp only); omega, by rw [run_take (by omega)]; exact mp, by rw [run_take (by omega)]; exact hR9_4, by rw [run_take (by omega)]; exact hc9_4, hna9_4, by rw [run_take (by omega)]; exact ht9_4, m0_0, hX⟩, by (try simp only); omega⟩
          · skip
            refine xl_nil ?_
            refine xthen_normal ?_
            refine xc_seq ?_
            refine xc_cond_f rfl ?_
            refine xc_exit ?_
            refine xthen_exit ?_
            refine xthen_exit ?_
            refine xblock_same ?_
            refine xthen_normal ?_
            refine xc_seq ?_
            refine xc_region ?_
            refine xl_pure rfl rfl rfl (pv_move (v := .int _ _) rfl rfl) ?_
            refine xl_pure rfl rfl rfl (pv_assign (v := .int _ _) rfl rfl) ?_
            refine xl_nil ?_
            refine xthen_normal ?_
            refine xc_ret ?_
            refine fin_ret (res1 (v := .int _ _) rfl rfl) ?_
            obtain rfl : j = (coS l w i p).length := by omega
            obtain ⟨e1, e2⟩ := re_co (l := l) (w := w) (i := i) (p := p) (t0 := t0) (t1 := t1) (t2 := t2) (h2_3) ((lay_nil hg).1 h2_9)
            rw [List.take_length] at mp hR1 hc1 hty
            exact ⟨_, _, _, by rw [e1], hX0.keep hX gb0_0, by rw [e2]; exact mp, by rw [e2]; exact hR1, by rw [e2]; exact hc1, hna1, by rw [e2]; exact hty⟩
    · skip
      refine xp_pure (i := 10) rfl (by kernel_rfl) (by kernel_rfl) rfl rfl rfl (pv_pick_f (v := .bool _) rfl rfl rfl) ?_
      refine xp_done (by kernel_rfl) ?_
      refine xthen_normal ?_
      refine xc_cond_t rfl ?_
      refine xc_seq ?_
      refine xc_region ?_
      refine xl_pure rfl rfl rfl (pv_assign (v := .int _ _) rfl rfl) ?_
      refine xl_nil ?_
      refine xthen_normal ?_
      refine xc_ret ?_
      refine xthen_ret ?_
      refine fin_ret (res1 (v := .int _ _) rfl rfl) ?_
      obtain ⟨e1, e2⟩ := re_no (l := l) (w := w) (i := i) (p := p) (t0 := t0) (t1 := t1) (t2 := t2) (fun h => by first | exact h2_3 h.2.1 | exact h2_9 ((lay_nil hg).2 h.2.2))
      exact ⟨a, c, T, by rw [e1], hX, by rw [e2]; exact mp, by rw [e2]; exact hR, by rw [e2]; exact hc, hna, by rw [e2]; exact ht⟩
  · skip
    refine xp_pure (i := 4) rfl (by kernel_rfl) (by kernel_rfl) rfl rfl rfl (pv_move (v := .bool _) rfl rfl) ?_
    refine xp_skip (i := 5) rfl (by kernel_rfl) (by kernel_rfl) rfl rfl rfl ?_
    refine xp_skip (i := 6) rfl (by kernel_rfl) (by kernel_rfl) rfl rfl rfl ?_
    refine xp_skip (i := 7) rfl (by kernel_rfl) (by kernel_rfl) rfl rfl rfl ?_
    refine xp_skip (i := 8) rfl (by kernel_rfl) (by kernel_rfl) rfl rfl rfl ?_
    refine xp_skip (i := 9) rfl (by kernel_rfl) (by kernel_rfl) rfl rfl rfl ?_
    refine xp_pure (i := 10) rfl (by kernel_rfl) (by kernel_rfl) rfl rfl rfl (pv_pick_t (v := .bool _) rfl rfl rfl) ?_
    refine xp_done (by kernel_rfl) ?_
    refine xthen_normal ?_
    refine xc_cond_t rfl ?_
    refine xc_seq ?_
    refine xc_region ?_
    refine xl_pure rfl rfl rfl (pv_assign (v := .int _ _) rfl rfl) ?_
    refine xl_nil ?_
    refine xthen_normal ?_
    refine xc_ret ?_
    refine xthen_ret ?_
    refine fin_ret (res1 (v := .int _ _) rfl rfl) ?_
    obtain ⟨e1, e2⟩ := re_no (l := l) (w := w) (i := i) (p := p) (t0 := t0) (t1 := t1) (t2 := t2) (fun h => by first | exact h2_3 h.2.1 | exact h2_9 ((lay_nil hg).2 h.2.2))
    exact ⟨a, c, T, by rw [e1], hX, by rw [e2]; exact mp, by rw [e2]; exact hR, by rw [e2]; exact hc, hna, by rw [e2]; exact ht⟩
end Go.XG
