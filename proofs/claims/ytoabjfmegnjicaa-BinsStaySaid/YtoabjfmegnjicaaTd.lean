/-
  Walks of the seat's functions over the logic XG: each function, what it computes. Printed by a program out of wip/walks.py.
-/
import Derived.Test.YtoabjfmegnjicaaI
import Derived.Test.YtoabjfmegnjicaaTo
import Derived.Test.YtoabjfmegnjicaaTa
import Derived.Test.YtoabjfmegnjicaaTb
import Derived.Test.YtoabjfmegnjicaaTc
namespace Go.XG
open Go.Proofs
set_option maxRecDepth 4000
set_option maxHeartbeats 4000000
theorem c48 {O : Outer} {H : Heap} {a : Option Addr} {n c : Nat} :
    FnC Try.prog 48 #[.slice a n c] O H (fun v H' => ∃ b, v = .func (.func 58) #[] #[.pointer (some ⟨b, 0, none⟩)] ∧ New H H' b [.slice a n c] 57) := by
  refine fn_enter (A := [.slice a n c]) Try.func48 rfl rfl ?_
  have hX := Ext.refl H
  refine xc_seq ?_
  refine xc_region ?_
  refine xl_heavy rfl rfl rfl (hv_box rfl rfl) ?_
  rintro v0_0 H0_0 ⟨b0_0, rfl, hN0_0⟩
  have gb0_0 := hX.fresh hN0_0
  have hX := hX.trans hN0_0.ext
  have m0_0 := hN0_0.blk
  refine xl_pure rfl rfl rfl (pv_assign rfl rfl) ?_
  refine xl_nil ?_
  refine xthen_normal ?_
  refine xc_seq ?_
  refine xc_region ?_
  refine xl_pure rfl rfl rfl (pv_makeFunc (a := []) (b := [.pointer _]) rfl rfl rfl) ?_
  refine xl_pure rfl rfl rfl (pv_assign rfl rfl) ?_
  refine xl_nil ?_
  refine xthen_normal ?_
  refine xc_ret ?_
  refine fin_ret (res1 rfl rfl) ?_
  exact ⟨_, rfl, hN0_0⟩

theorem c58 {O : Outer} {H : Heap} {a : Option Addr} {c bl lp : Nat} {l : List (List Int)} {J : Nat → Heap → Prop} {Jx : Heap → Prop} (hl : l.length < 1099511627776) (hJe : ∀ i H H', J i H → Ext H H' → J i H') (hXe : ∀ H H', Jx H → Ext H H' → Jx H') (hJR : ∀ i H, J i H → RowsT H 88 5 a l) (hJ0 : ∀ H, J 0 H → Blk H bl [.slice a l.length c] 57) (hY : ∀ i H, i < l.length → J i H → Yld Try.prog O lp [.agg (ints (ky (gr l i))).toArray, .int .i64 ((gr l i).getD 4 0)] H (fun b H' => b = true ∧ J (i + 1) H' ∨ b = false ∧ Jx H')) (hJ : J 0 H) :
    FnC Try.prog 58 #[.func (.yield lp) #[] #[], .pointer (some ⟨bl, 0, none⟩)] O H (fun _ H' => J l.length H' ∨ Jx H') := by
  have mb := hJ0 _ hJ
  refine fn_enter (A := [.func (.yield lp) #[] #[], .pointer (some ⟨bl, 0, none⟩)]) Try.func58 rfl rfl ?_
  have hX := Ext.refl H
  refine xc_seq ?_
  refine xc_region ?_
  refine xl_light rfl rfl rfl (lv_load (v := .slice _ _ _) rfl rfl (ld_blk mb rfl)) ?_
  refine xl_pure rfl rfl rfl (pv_len_l rfl rfl) ?_
  refine xl_pure rfl rfl rfl (pv_move (v := .int _ _) rfl rfl) ?_
  refine xl_nil ?_
  refine xthen_normal ?_
  refine xc_block ?_
  refine xc_loop (τ := Nat) (fun t => [(0, .func (.yield lp) #[] #[]), (5, .slice a l.length c), (6, .int .i64 (l.length : Nat)), (7, .int .i64 (t : Nat))]) (fun t H' => (t ≤ l.length) ∧ (J t H') ∧ (True)) (fun t H' => l.length - t) 0 ?_ ?_ ?_
  · exact ⟨rfl, rfl, rfl, rfl, trivial⟩
  · skip
    exact ⟨Nat.zero_le _, hJ, trivial⟩
  · intro σ
    clear hX mb
    rintro i Hl1 ⟨hi, hJ, hX⟩
    replace hi : i ≤ l.length := hi
    replace hJ : J i Hl1 := hJ
    replace hX : True := hX
    have hX := Ext.refl Hl1
    have hR := hJR _ _ hJ
    obtain ⟨ba, off, hae⟩ := hR.at
    show XC _ _ _ (upds σ [(0, .func (.yield lp) #[] #[]), (5, .slice a l.length c), (6, .int .i64 (l.length : Nat)), (7, .int .i64 (i : Nat))]) _
    refine xc_seq ?_
    refine xc_region ?_
    refine xl_dec rfl rfl rfl (pv_lss rfl rfl rfl) (fun h1_0 => ?_) (fun h1_0 => ?_)
    · skip
      refine xl_nil ?_
      refine xthen_normal ?_
      refine xc_seq ?_
      refine xc_cond_t rfl ?_
      refine xc_skip ?_
      refine xthen_normal ?_
      refine xc_seq ?_
      refine xc_block ?_
      refine xc_seq ?_
      have hwi := hR.wide.get (show i < l.length by omega)
      refine xc_region ?_
      refine xl_pure rfl rfl rfl (pv_indexAddr_l rfl (sl_eq (hae (by omega)).1) rfl (by omega)) ?_
      refine xl_light rfl rfl rfl (lv_load (v := .agg _) rfl rfl (by exact ld_row' (hae (by omega)).2 hR.wide (by omega))) ?_
      refine xl_heavy rfl rfl rfl (hv_alloc rfl rfl) ?_
      rintro v2_2 H2_2 ⟨b2_2, rfl, hN2_2⟩
      have gb2_2 := hX.fresh hN2_2
      have hX := hX.trans hN2_2.ext
      have m2_2 := hN2_2.blk
      refine xl_store rfl rfl (hv_storeA (vs := ints (gr l i)) rfl rfl rfl (m2_2) (ints_ten hwi) (by rfl) (ints_one _)) ?_
      rintro v2_3 H2_3 ⟨hU2_3, hZ2_3⟩
      have hX := hX.upd hU2_3.but gb2_2
      have m2_2 := hU2_3.blk
      refine xl_nil ?_
      refine xthen_normal ?_
      refine xc_seq ?_
      refine xc_region ?_
      refine xl_pure rfl rfl rfl (pv_move rfl rfl) ?_
      refine xl_pure rfl rfl rfl (pv_fieldAddr rfl rfl) ?_
      refine xl_light rfl rfl rfl (lv_load (v := .agg _) rfl rfl (ld_ky m2_2 (by omega))) ?_
      refine xl_pure rfl rfl rfl (pv_fieldAddr rfl rfl) ?_
      refine xl_light rfl rfl rfl (lv_load (v := .int _ _) rfl rfl (by exact ld_get (i := 4) m2_2 (by omega))) ?_
      refine xl_yield rfl rfl rfl (hy_yield rfl rfl rfl (hY i _ (by omega) (hJe _ _ _ hJ hX))) ?_
      rintro v3_5 H3_5 ⟨b3_5, rfl, hb3_5⟩
      rcases hb3_5 with ⟨rfl, hJ⟩ | ⟨rfl, hJx⟩
      · skip
        refine xl_pure rfl rfl rfl (pv_not rfl rfl) ?_
        refine xl_nil ?_
        refine xthen_normal ?_
        refine xc_cond_f rfl ?_
        refine xc_skip ?_
        refine xblock_normal ?_
        refine xthen_normal ?_
        refine xc_region ?_
        refine xl_pure rfl rfl rfl (pv_add rfl rfl rfl (fit_i64 (by omega))) ?_
        refine xl_pure rfl rfl rfl (pv_move (v := .int _ _) rfl rfl) ?_
        refine xl_nil ?_
        refine xthen_normal ?_
        exact ⟨i + 1, ⟨rfl, rfl, rfl, rfl, trivial⟩, ⟨by (try simp only); omega, hJ, trivial⟩, by (try simp only); omega⟩
      · skip
        refine xl_pure rfl rfl rfl (pv_not rfl rfl) ?_
        refine xl_nil ?_
        refine xthen_normal ?_
        refine xc_cond_t rfl ?_
        refine xc_ret ?_
        refine xblock_ret ?_
        refine xthen_ret ?_
        refine xthen_ret ?_
        refine xblock_ret ?_
        refine fin_ret (res0 rfl) ?_
        exact .inr hJx
    · skip
      refine xl_nil ?_
      refine xthen_normal ?_
      refine xc_seq ?_
      refine xc_cond_f rfl ?_
      refine xc_exit ?_
      refine xthen_exit ?_
      refine xthen_exit ?_
      refine xblock_same ?_
      refine fin_normal (res0 rfl) ?_
      exact .inl (by rw [show l.length = i by omega]; exact hJ)

theorem c31 {O : Outer} {H : Heap} (p : Option Addr) :
    FnC Try.prog 31 #[.pointer p] O H (fun v H' => ∃ b, v = .func (.func 47) #[] #[.pointer (some ⟨b, 0, none⟩)] ∧ New H H' b [.pointer p] 86) := by
  refine fn_enter (A := [.pointer p]) Try.func31 rfl rfl ?_
  have hX := Ext.refl H
  refine xc_seq ?_
  refine xc_region ?_
  refine xl_heavy rfl rfl rfl (hv_box rfl rfl) ?_
  rintro v0_0 H0_0 ⟨b0_0, rfl, hN0_0⟩
  have gb0_0 := hX.fresh hN0_0
  have hX := hX.trans hN0_0.ext
  have m0_0 := hN0_0.blk
  refine xl_pure rfl rfl rfl (pv_assign rfl rfl) ?_
  refine xl_nil ?_
  refine xthen_normal ?_
  refine xc_seq ?_
  refine xc_region ?_
  refine xl_pure rfl rfl rfl (pv_makeFunc (a := []) (b := [.pointer _]) rfl rfl rfl) ?_
  refine xl_pure rfl rfl rfl (pv_assign rfl rfl) ?_
  refine xl_nil ?_
  refine xthen_normal ?_
  refine xc_ret ?_
  refine fin_ret (res1 rfl rfl) ?_
  exact ⟨_, rfl, hN0_0⟩

theorem c47 {O : Outer} {H : Heap} {bt b1 t c lp : Nat} {rest : List Value} {a : Option Addr} {l : List (List Int)} {J : Nat → Heap → Prop} {Jx : Heap → Prop} (hl : l.length < 1099511627776) (hJe : ∀ i H H', J i H → Ext H H' → J i H') (hXe : ∀ H H', Jx H → Ext H H' → Jx H') (hJR : ∀ i H, J i H → RowsT H 88 5 a l) (hJ0 : ∀ H, J 0 H → Blk H b1 [.pointer (some ⟨bt, 0, none⟩)] 86 ∧ Blk H bt (.slice a l.length c :: rest) t) (hY : ∀ i H, i < l.length → J i H → Yld Try.prog O lp [.agg (ints (ky (gr l i))).toArray, .int .i64 ((gr l i).getD 4 0)] H (fun b H' => b = true ∧ J (i + 1) H' ∨ b = false ∧ Jx H')) (hJ : J 0 H) :
    FnC Try.prog 47 #[.func (.yield lp) #[] #[], .pointer (some ⟨b1, 0, none⟩)] O H (fun _ H' => J l.length H' ∨ Jx H') := by
  obtain ⟨m1, mt⟩ := hJ0 _ hJ
  refine fn_enter (A := [.func (.yield lp) #[] #[], .pointer (some ⟨b1, 0, none⟩)]) Try.func47 rfl rfl ?_
  have hX := Ext.refl H
  refine xc_region ?_
  refine xl_light rfl rfl rfl (lv_load (v := .pointer _) rfl rfl (ld_blk m1 rfl)) ?_
  refine xl_heavy rfl rfl rfl (hv_call (g := 49) rfl rfl (c49 mt) rfl) ?_
  rintro v0_1 H0_1 ⟨rfl, rfl⟩
  refine xl_heavy rfl rfl rfl (hv_call (g := 48) rfl rfl (c48) rfl) ?_
  rintro v0_2 H0_2 ⟨b0_2, rfl, hN0_2⟩
  have hX := hX.trans hN0_2.ext
  refine xl_pure rfl rfl rfl (pv_move rfl rfl) ?_
  refine xl_heavy rfl rfl rfl (hv_call (g := 58) rfl rfl (c58 (bl := b0_2) (c := c) (a := a) (l := l) (J := fun i H2 => J i H2 ∧ (i = 0 → Blk H2 b0_2 [.slice (a) (List.length (l)) (c)] 57)) hl (fun i H1 H2 h e => ⟨hJe _ _ _ h.1 e, fun h0 => (h.2 h0).ext e⟩) hXe (fun i H1 h => hJR _ _ h.1) (fun H1 h => h.2 rfl) (fun i H1 hi h => (hY i H1 hi h.1).mono fun b H2 hb => hb.imp (fun h => ⟨h.1, h.2, fun h0 => absurd h0 (by omega)⟩) id) ⟨hJe _ _ _ hJ hX, fun _ => hN0_2.blk⟩) rfl) ?_
  rintro v0_4 H0_4 hj0_4
  refine xl_nil ?_
  refine fin_normal (res0 rfl) ?_
  exact hj0_4.imp (fun h => h.1) id

theorem c47n {O : Outer} {H : Heap} {b1 lp : Nat} {J : Nat → Heap → Prop} {Jx : Heap → Prop} (hJe : ∀ i H H', J i H → Ext H H' → J i H') (hXe : ∀ H H', Jx H → Ext H H' → Jx H') (hJ0 : ∀ H, J 0 H → Blk H b1 [.pointer none] 86) (hJ : J 0 H) :
    FnC Try.prog 47 #[.func (.yield lp) #[] #[], .pointer (some ⟨b1, 0, none⟩)] O H (fun _ H' => J 0 H' ∨ Jx H') := by
  have m1 := hJ0 _ hJ
  refine fn_enter (A := [.func (.yield lp) #[] #[], .pointer (some ⟨b1, 0, none⟩)]) Try.func47 rfl rfl ?_
  have hX := Ext.refl H
  refine xc_region ?_
  refine xl_light rfl rfl rfl (lv_load (v := .pointer _) rfl rfl (ld_blk m1 rfl)) ?_
  refine xl_heavy rfl rfl rfl (hv_call (g := 49) rfl rfl (c49n) rfl) ?_
  rintro v0_1 H0_1 ⟨rfl, rfl⟩
  refine xl_heavy rfl rfl rfl (hv_call (g := 48) rfl rfl (c48) rfl) ?_
  rintro v0_2 H0_2 ⟨b0_2, rfl, hN0_2⟩
  have hX := hX.trans hN0_2.ext
  refine xl_pure rfl rfl rfl (pv_move rfl rfl) ?_
  refine xl_heavy rfl rfl rfl (hv_call (g := 58) rfl rfl (c58 (bl := b0_2) (c := 0) (a := none) (l := []) (J := fun i H2 => J i H2 ∧ (i = 0 → Blk H2 b0_2 [.slice (none) (List.length ([])) (0)] 57)) (by decide) (fun i H1 H2 h e => ⟨hJe _ _ _ h.1 e, fun h0 => (h.2 h0).ext e⟩) hXe (fun i H1 h => RowsT.nil) (fun H1 h => h.2 rfl) (fun i H1 hi h => absurd hi (by simp)) ⟨hJe _ _ _ hJ hX, fun _ => hN0_2.blk⟩) rfl) ?_
  rintro v0_4 H0_4 hj0_4
  refine xl_nil ?_
  refine fin_normal (res0 rfl) ?_
  exact hj0_4.imp (fun h => h.1) id

/-- All, as an iterator. -/
theorem tAll {O : Outer} {bt b1 t c : Nat} {rest : List Value} {a : Option Addr} {l : List (List Int)} (hl : l.length < 1099511627776) :
    It Try.prog O 47 [.pointer (some ⟨b1, 0, none⟩)] l.length (fun i => [.agg (ints (ky (gr l i))).toArray, .int .i64 ((gr l i).getD 4 0)]) (fun H => Blk H b1 [.pointer (some ⟨bt, 0, none⟩)] 86 ∧ Blk H bt (.slice a l.length c :: rest) t) (fun H => RowsT H 88 5 a l) :=
  fun _ _ _ h1 h2 h3 h4 h5 _ h0 => c47 hl h1 h2 h3 h4 h5 h0
theorem tAlln {O : Outer} {b1 : Nat} (f : Nat → List Value) : It Try.prog O 47 [.pointer (some ⟨b1, 0, none⟩)] 0 f (fun H => Blk H b1 [.pointer none] 86) (fun _ => True) :=
  fun _ _ _ h1 h2 _ h4 _ _ h0 => c47n h1 h2 h4 h0

theorem c32 {O : Outer} {H : Heap} (p : Option Addr) (fk tk : List Int) (hf : fk.length = 4) (ht : tk.length = 4) :
    FnC Try.prog 32 #[.pointer p, .agg (ints fk).toArray, .agg (ints tk).toArray] O H (fun v H' => ∃ b1 b2 b3, v = .func (.func 50) #[] #[.pointer (some ⟨b1, 0, none⟩), .pointer (some ⟨b2, 0, none⟩), .pointer (some ⟨b3, 0, none⟩)] ∧ Blk H' b1 [.pointer p] 86 ∧ Blk H' b2 (ints fk) 67 ∧ Blk H' b3 (ints tk) 67 ∧ Ext H H') := by
  refine fn_enter (A := [.pointer p, .agg (ints fk).toArray, .agg (ints tk).toArray]) Try.func32 rfl rfl ?_
  have hX := Ext.refl H
  refine xc_seq ?_
  refine xc_region ?_
  refine xl_heavy rfl rfl rfl (hv_box rfl rfl) ?_
  rintro v0_0 H0_0 ⟨b0_0, rfl, hN0_0⟩
  have gb0_0 := hX.fresh hN0_0
  have hX := hX.trans hN0_0.ext
  have m0_0 := hN0_0.blk
  refine xl_heavy rfl rfl rfl (hv_box rfl rfl) ?_
  rintro v0_1 H0_1 ⟨b0_1, rfl, hN0_1⟩
  have gb0_1 := hX.fresh hN0_1
  have nm0_0_0_1 := m0_0.apart hN0_1
  have m0_0 := m0_0.ext hN0_1.ext
  have hX := hX.trans hN0_1.ext
  have m0_1 := hN0_1.blk
  refine xl_heavy rfl rfl rfl (hv_box rfl rfl) ?_
  rintro v0_2 H0_2 ⟨b0_2, rfl, hN0_2⟩
  have gb0_2 := hX.fresh hN0_2
  have nm0_0_0_2 := m0_0.apart hN0_2
  have nm0_1_0_2 := m0_1.apart hN0_2
  have m0_0 := m0_0.ext hN0_2.ext
  have m0_1 := m0_1.ext hN0_2.ext
  have hX := hX.trans hN0_2.ext
  have m0_2 := hN0_2.blk
  refine xl_pure rfl rfl rfl (pv_assign rfl rfl) ?_
  refine xl_nil ?_
  refine xthen_normal ?_
  refine xc_seq ?_
  refine xc_region ?_
  refine xl_pure rfl rfl rfl (pv_makeFunc (a := []) (b := [.pointer _, .pointer _, .pointer _]) rfl rfl rfl) ?_
  refine xl_pure rfl rfl rfl (pv_assign rfl rfl) ?_
  refine xl_nil ?_
  refine xthen_normal ?_
  refine xc_ret ?_
  refine fin_ret (res1 rfl rfl) ?_
  exact ⟨_, _, _, rfl, m0_0, m0_1, m0_2, hX⟩

theorem c50 {O : Outer} {H : Heap} {bt b1 b2 b3 t c lp : Nat} {rest : List Value} {a : Option Addr} {l : List (List Int)} {J : Nat → Heap → Prop} {Jx : Heap → Prop} (hl : l.length < 1099511627776) (hJe : ∀ i H H', J i H → Ext H H' → J i H') (hXe : ∀ H H', Jx H → Ext H H' → Jx H') (hJR : ∀ i H, J i H → RowsT H 88 5 a l) (hne : Nat.beq t 88 = false) (hs : Srt l) (hc : l.length ≤ c) (hna : a = none → c = 0) (fk tk : List Int) (hf : fk.length = 4) (ht : tk.length = 4) (hJ0 : ∀ H, J 0 H → Blk H b1 [.pointer (some ⟨bt, 0, none⟩)] 86 ∧ Blk H b2 (ints fk) 67 ∧ Blk H b3 (ints tk) 67 ∧ Blk H bt (.slice a l.length c :: rest) t) (hY : ∀ i H, i < (rngR l fk tk).length → J i H → Yld Try.prog O lp [.agg (ints (ky (gr (rngR l fk tk) i))).toArray, .int .i64 ((gr (rngR l fk tk) i).getD 4 0)] H (fun b H' => b = true ∧ J (i + 1) H' ∨ b = false ∧ Jx H')) (hJ : J 0 H) :
    FnC Try.prog 50 #[.func (.yield lp) #[] #[], .pointer (some ⟨b1, 0, none⟩), .pointer (some ⟨b2, 0, none⟩), .pointer (some ⟨b3, 0, none⟩)] O H (fun _ H' => J (rngR l fk tk).length H' ∨ Jx H') := by
  obtain ⟨m1, m2, m3, mt⟩ := hJ0 _ hJ
  have hR := hJR _ _ hJ
  have hbf := bel_le l fk
  have hbt := bel_le l tk
  refine fn_enter (A := [.func (.yield lp) #[] #[], .pointer (some ⟨b1, 0, none⟩), .pointer (some ⟨b2, 0, none⟩), .pointer (some ⟨b3, 0, none⟩)]) Try.func50 rfl rfl ?_
  have hX := Ext.refl H
  refine xc_seq ?_
  refine xc_region ?_
  refine xl_light rfl rfl rfl (lv_load (v := .pointer _) rfl rfl (ld_blk m1 rfl)) ?_
  refine xl_light rfl rfl rfl (lv_load (v := .agg _) rfl rfl (ld_ints m2 hf)) ?_
  refine xl_heavy rfl rfl rfl (hv_call (g := 46) rfl rfl (c46 mt hR hne hs hc hna hl fk hf) rfl) ?_
  rintro v0_2 H0_2 ⟨rfl, hE0_2⟩
  have m1 := m1.ext hE0_2
  have m2 := m2.ext hE0_2
  have m3 := m3.ext hE0_2
  have mt := mt.ext hE0_2
  have hR := hR.ext hE0_2
  have hX := hX.trans hE0_2
  refine xl_pure rfl rfl rfl (pv_move (v := .tuple _) rfl rfl) ?_
  refine xl_pure rfl rfl rfl (pv_extract (v := .int _ _) rfl rfl rfl) ?_
  refine xl_pure rfl rfl rfl (pv_extract (v := .bool _) rfl rfl rfl) ?_
  refine xl_pure rfl rfl rfl (pv_assign (v := .int _ _) rfl rfl) ?_
  refine xl_pure rfl rfl rfl (pv_assign (v := .bool _) rfl rfl) ?_
  refine xl_nil ?_
  refine xthen_normal ?_
  refine xc_seq ?_
  refine xc_region ?_
  refine xl_light rfl rfl rfl (lv_load (v := .pointer _) rfl rfl (ld_blk m1 rfl)) ?_
  refine xl_light rfl rfl rfl (lv_load (v := .agg _) rfl rfl (ld_ints m3 ht)) ?_
  refine xl_heavy rfl rfl rfl (hv_call (g := 46) rfl rfl (c46 mt hR hne hs hc hna hl tk ht) rfl) ?_
  rintro v1_2 H1_2 ⟨rfl, hE1_2⟩
  have m1 := m1.ext hE1_2
  have m2 := m2.ext hE1_2
  have m3 := m3.ext hE1_2
  have mt := mt.ext hE1_2
  have hR := hR.ext hE1_2
  have hX := hX.trans hE1_2
  refine xl_pure rfl rfl rfl (pv_move (v := .tuple _) rfl rfl) ?_
  refine xl_pure rfl rfl rfl (pv_extract (v := .int _ _) rfl rfl rfl) ?_
  refine xl_pure rfl rfl rfl (pv_extract (v := .bool _) rfl rfl rfl) ?_
  refine xl_pure rfl rfl rfl (pv_assign (v := .int _ _) rfl rfl) ?_
  refine xl_pure rfl rfl rfl (pv_assign (v := .bool _) rfl rfl) ?_
  refine xl_nil ?_
  refine xthen_normal ?_
  refine xc_region ?_
  refine xl_light rfl rfl rfl (lv_load (v := .pointer _) rfl rfl (ld_blk m1 rfl)) ?_
  refine xl_heavy rfl rfl rfl (hv_call (g := 49) rfl rfl (c49 mt) rfl) ?_
  rintro v2_1 H2_1 ⟨rfl, rfl⟩
  refine xl_pure rfl rfl rfl (pv_move (v := .int _ _) rfl rfl) ?_
  refine xl_pure rfl rfl rfl (pv_move (v := .int _ _) rfl rfl) ?_
  refine xl_pure rfl rfl rfl (pv_move (v := .int _ _) rfl rfl) ?_
  refine xl_pure rfl rfl rfl (pv_maxn rfl rfl rfl) ?_
  refine xl_pure rfl rfl rfl (pv_slice_l rfl rfl (.none _) (.some rfl (by omega)) (.some rfl (by omega)) (by omega) (by simp)) ?_
  refine xl_heavy rfl rfl rfl (hv_call (g := 48) rfl rfl (c48) rfl) ?_
  rintro v2_7 H2_7 ⟨b2_7, rfl, hN2_7⟩
  have hX := hX.trans hN2_7.ext
  have hbk := hN2_7.blk
  have hbk : Blk H2_7 b2_7 [.slice (cutA a (bel l fk) c 5) (rngR l fk tk).length (c - bel l fk)] 57 := by rw [← rng_len]; exact hbk
  refine xl_pure rfl rfl rfl (pv_move rfl rfl) ?_
  refine xl_heavy rfl rfl rfl (hv_call (g := 58) rfl rfl (c58 (bl := b2_7) (c := (c - bel l fk)) (a := (cutA a (bel l fk) c 5)) (l := rngR l fk tk) (J := fun i H2 => J i H2 ∧ (i = 0 → Blk H2 b2_7 [.slice ((cutA a (bel l fk) c 5)) (List.length (rngR l fk tk)) ((c - bel l fk))] 57)) (by rw [← rng_len]; omega) (fun i H1 H2 h e => ⟨hJe _ _ _ h.1 e, fun h0 => (h.2 h0).ext e⟩) hXe (fun i H1 h => (hJR _ _ h.1).mid (by omega) (by omega) hc) (fun H1 h => h.2 rfl) (fun i H1 hi h => (hY i H1 hi h.1).mono fun b H2 hb => hb.imp (fun h => ⟨h.1, h.2, fun h0 => absurd h0 (by omega)⟩) id) ⟨hJe _ _ _ hJ hX, fun _ => hbk⟩) rfl) ?_
  rintro v2_9 H2_9 hj2_9
  refine xl_nil ?_
  refine fin_normal (res0 rfl) ?_
  exact hj2_9.imp (fun h => h.1) id

/-- Range, as an iterator. -/
theorem tRange {O : Outer} {bt b1 b2 b3 t c : Nat} {rest : List Value} {a : Option Addr} {l : List (List Int)} (hl : l.length < 1099511627776) (hne : Nat.beq t 88 = false) (hs : Srt l) (hc : l.length ≤ c) (hna : a = none → c = 0) (fk tk : List Int) (hf : fk.length = 4) (ht : tk.length = 4) :
    It Try.prog O 50 [.pointer (some ⟨b1, 0, none⟩), .pointer (some ⟨b2, 0, none⟩), .pointer (some ⟨b3, 0, none⟩)] (rngR l fk tk).length (fun i => [.agg (ints (ky (gr (rngR l fk tk) i))).toArray, .int .i64 ((gr (rngR l fk tk) i).getD 4 0)]) (fun H => Blk H b1 [.pointer (some ⟨bt, 0, none⟩)] 86 ∧ Blk H b2 (ints fk) 67 ∧ Blk H b3 (ints tk) 67 ∧ Blk H bt (.slice a l.length c :: rest) t) (fun H => RowsT H 88 5 a l) :=
  fun _ _ _ h1 h2 h3 h4 h5 _ h0 => c50 hl h1 h2 h3 hne hs hc hna fk tk hf ht h4 h5 h0

theorem c50n {O : Outer} {H : Heap} {b1 b2 b3 lp : Nat} {J : Nat → Heap → Prop} {Jx : Heap → Prop} (hJe : ∀ i H H', J i H → Ext H H' → J i H') (hXe : ∀ H H', Jx H → Ext H H' → Jx H') (fk tk : List Int) (hf : fk.length = 4) (ht : tk.length = 4) (hJ0 : ∀ H, J 0 H → Blk H b1 [.pointer none] 86 ∧ Blk H b2 (ints fk) 67 ∧ Blk H b3 (ints tk) 67) (hJ : J 0 H) :
    FnC Try.prog 50 #[.func (.yield lp) #[] #[], .pointer (some ⟨b1, 0, none⟩), .pointer (some ⟨b2, 0, none⟩), .pointer (some ⟨b3, 0, none⟩)] O H (fun _ H' => J 0 H' ∨ Jx H') := by
  obtain ⟨m1, m2, m3⟩ := hJ0 _ hJ
  refine fn_enter (A := [.func (.yield lp) #[] #[], .pointer (some ⟨b1, 0, none⟩), .pointer (some ⟨b2, 0, none⟩), .pointer (some ⟨b3, 0, none⟩)]) Try.func50 rfl rfl ?_
  have hX := Ext.refl H
  refine xc_seq ?_
  refine xc_region ?_
  refine xl_light rfl rfl rfl (lv_load (v := .pointer _) rfl rfl (ld_blk m1 rfl)) ?_
  refine xl_light rfl rfl rfl (lv_load (v := .agg _) rfl rfl (ld_ints m2 hf)) ?_
  refine xl_heavy rfl rfl rfl (hv_call (g := 46) rfl rfl (c46n fk hf) rfl) ?_
  rintro v0_2 H0_2 ⟨rfl, hE0_2⟩
  have m1 := m1.ext hE0_2
  have m2 := m2.ext hE0_2
  have m3 := m3.ext hE0_2
  have hX := hX.trans hE0_2
  refine xl_pure rfl rfl rfl (pv_move (v := .tuple _) rfl rfl) ?_
  refine xl_pure rfl rfl rfl (pv_extract (v := .int _ _) rfl rfl rfl) ?_
  refine xl_pure rfl rfl rfl (pv_extract (v := .bool _) rfl rfl rfl) ?_
  refine xl_pure rfl rfl rfl (pv_assign (v := .int _ _) rfl rfl) ?_
  refine xl_pure rfl rfl rfl (pv_assign (v := .bool _) rfl rfl) ?_
  refine xl_nil ?_
  refine xthen_normal ?_
  refine xc_seq ?_
  refine xc_region ?_
  refine xl_light rfl rfl rfl (lv_load (v := .pointer _) rfl rfl (ld_blk m1 rfl)) ?_
  refine xl_light rfl rfl rfl (lv_load (v := .agg _) rfl rfl (ld_ints m3 ht)) ?_
  refine xl_heavy rfl rfl rfl (hv_call (g := 46) rfl rfl (c46n tk ht) rfl) ?_
  rintro v1_2 H1_2 ⟨rfl, hE1_2⟩
  have m1 := m1.ext hE1_2
  have m2 := m2.ext hE1_2
  have m3 := m3.ext hE1_2
  have hX := hX.trans hE1_2
  refine xl_pure rfl rfl rfl (pv_move (v := .tuple _) rfl rfl) ?_
  refine xl_pure rfl rfl rfl (pv_extract (v := .int _ _) rfl rfl rfl) ?_
  refine xl_pure rfl rfl rfl (pv_extract (v := .bool _) rfl rfl rfl) ?_
  refine xl_pure rfl rfl rfl (pv_assign (v := .int _ _) rfl rfl) ?_
  refine xl_pure rfl rfl rfl (pv_assign (v := .bool _) rfl rfl) ?_
  refine xl_nil ?_
  refine xthen_normal ?_
  refine xc_region ?_
  refine xl_light rfl rfl rfl (lv_load (v := .pointer _) rfl rfl (ld_blk m1 rfl)) ?_
  refine xl_heavy rfl rfl rfl (hv_call (g := 49) rfl rfl (c49n) rfl) ?_
  rintro v2_1 H2_1 ⟨rfl, rfl⟩
  refine xl_pure rfl rfl rfl (pv_move (v := .int _ _) rfl rfl) ?_
  refine xl_pure rfl rfl rfl (pv_move (v := .int _ _) rfl rfl) ?_
  refine xl_pure rfl rfl rfl (pv_move (v := .int _ _) rfl rfl) ?_
  refine xl_pure rfl rfl rfl (pv_maxn (m := 0) (n := 0) rfl rfl rfl) ?_
  refine xl_pure rfl rfl rfl (pv_slice_l rfl rfl (.none _) (.some rfl (by omega)) (.some rfl (by omega)) (by omega) (by simp)) ?_
  refine xl_heavy rfl rfl rfl (hv_call (g := 48) rfl rfl (c48) rfl) ?_
  rintro v2_7 H2_7 ⟨b2_7, rfl, hN2_7⟩
  have hX := hX.trans hN2_7.ext
  have hbk := hN2_7.blk
  have hbk : Blk H2_7 b2_7 [.slice none 0 0] 57 := hbk
  refine xl_pure rfl rfl rfl (pv_move rfl rfl) ?_
  refine xl_heavy rfl rfl rfl (hv_call (g := 58) rfl rfl (c58 (bl := b2_7) (c := 0) (a := none) (l := []) (J := fun i H2 => J i H2 ∧ (i = 0 → Blk H2 b2_7 [.slice (none) (List.length ([])) (0)] 57)) (by decide) (fun i H1 H2 h e => ⟨hJe _ _ _ h.1 e, fun h0 => (h.2 h0).ext e⟩) hXe (fun i H1 h => RowsT.nil) (fun H1 h => h.2 rfl) (fun i H1 hi h => absurd hi (by simp)) ⟨hJe _ _ _ hJ hX, fun _ => hbk⟩) rfl) ?_
  rintro v2_9 H2_9 hj2_9
  refine xl_nil ?_
  refine fin_normal (res0 rfl) ?_
  exact hj2_9.imp (fun h => h.1) id

theorem tRangen {O : Outer} {b1 b2 b3 : Nat} (fk tk : List Int) (hf : fk.length = 4) (ht : tk.length = 4) (f : Nat → List Value) :
    It Try.prog O 50 [.pointer (some ⟨b1, 0, none⟩), .pointer (some ⟨b2, 0, none⟩), .pointer (some ⟨b3, 0, none⟩)] 0 f (fun H => Blk H b1 [.pointer none] 86 ∧ Blk H b2 (ints fk) 67 ∧ Blk H b3 (ints tk) 67) (fun _ => True) :=
  fun _ _ _ h1 h2 _ h4 _ _ h0 => c50n h1 h2 fk tk hf ht h4 h0
end Go.XG
