/-
  Walks of the seat's functions over the logic XG: each function, what it computes. Printed by a program out of wip/walks.py.
-/
import Derived.Test.YtdpgbnflielagaaI
import Derived.Test.YtdpgbnflielagaaN
import Derived.Test.YtdpgbnflielagaaWa
import Derived.Test.YtdpgbnflielagaaWb
namespace Go.XG
open Go.Proofs
set_option maxRecDepth 4000
set_option maxHeartbeats 4000000
theorem eqJ {O : Outer} {H : Heap} {jb : Nat} {x : Int} (mj : Blk H jb [.int .i64 x] 3) (y : Int) :
    FnC Try.prog 25 #[.int .i64 y, .pointer (some ⟨jb, 0, none⟩)] O H (fun v H' => ((y = x ∧ v = .bool true ∨ ¬ y = x ∧ v = .bool false) ∧ H = H')) := by
  refine fn_enter (A := [.int .i64 y, .pointer (some ⟨jb, 0, none⟩)]) Try.func25 rfl rfl ?_
  have hX := Ext.refl H
  refine xc_seq ?_
  refine xc_region ?_
  refine xl_pure rfl rfl rfl (pv_assign (v := .bool _) rfl rfl) ?_
  refine xl_nil ?_
  refine xthen_normal ?_
  refine xc_seq ?_
  refine xc_region ?_
  refine xl_pure rfl rfl rfl (pv_move (v := .int _ _) rfl rfl) ?_
  refine xl_light rfl rfl rfl (lv_load (v := .int _ _) rfl rfl (ld_blk mj rfl)) ?_
  refine xl_dec rfl rfl rfl (pv_eql rfl rfl rfl) (fun h1_2 => ?_) (fun h1_2 => ?_)
  · skip
    refine xl_pure rfl rfl rfl (pv_assign (v := .bool _) rfl rfl) ?_
    refine xl_nil ?_
    refine xthen_normal ?_
    refine xc_ret ?_
    refine fin_ret (res1 (v := .bool _) rfl rfl) ?_
    first
      | exact ⟨.inl ⟨by omega, rfl⟩, rfl⟩
      | exact ⟨.inr ⟨by omega, rfl⟩, rfl⟩
  · skip
    refine xl_pure rfl rfl rfl (pv_assign (v := .bool _) rfl rfl) ?_
    refine xl_nil ?_
    refine xthen_normal ?_
    refine xc_ret ?_
    refine fin_ret (res1 (v := .bool _) rfl rfl) ?_
    first
      | exact ⟨.inl ⟨by omega, rfl⟩, rfl⟩
      | exact ⟨.inr ⟨by omega, rfl⟩, rfl⟩

theorem indexF {O : Outer} {H : Heap} {a : Option Addr} {c : Nat} {l : List Int} (hs : Ints H a l) (hl : l.length < 1000000) {jb : Nat} {x : Int} (mj : Blk H jb [.int .i64 x] 3) :
    FnC Try.prog 42 #[.slice a l.length c, .func (.func 25) #[] #[.pointer (some ⟨jb, 0, none⟩)]] O H (fun v H' => v = .int .i64 (idI l x) ∧ H = H') := by
  refine fn_enter (A := [.slice a l.length c, .func (.func 25) #[] #[.pointer (some ⟨jb, 0, none⟩)]]) Try.func42 rfl rfl ?_
  have hX := Ext.refl H
  refine xc_seq ?_
  refine xc_region ?_
  refine xl_pure rfl rfl rfl (pv_assign (v := .int _ _) rfl rfl) ?_
  refine xl_nil ?_
  refine xthen_normal ?_
  refine xc_seq ?_
  refine xc_seq ?_
  refine xc_region ?_
  refine xl_pure rfl rfl rfl (pv_move (v := .slice _ _ _) rfl rfl) ?_
  refine xl_pure rfl rfl rfl (pv_len_l rfl rfl) ?_
  refine xl_pure rfl rfl rfl (pv_move (v := .int _ _) rfl rfl) ?_
  refine xl_nil ?_
  refine xthen_normal ?_
  refine xc_block ?_
  refine xc_loop (τ := Nat) (fun t => [(0, .slice a l.length c), (1, .func (.func 25) #[] #[.pointer (some ⟨jb, 0, none⟩)]), (7, .int .i64 (l.length : Nat)), (8, .int .i64 (t : Nat))]) (fun t H' => (t ≤ l.length) ∧ (∀ j, j < t → l.getD j 0 ≠ x) ∧ (H = H') ∧ (Ext H H')) (fun t H' => l.length - t) 0 ?_ ?_ ?_
  · exact ⟨rfl, rfl, rfl, rfl, trivial⟩
  · skip
    exact ⟨Nat.zero_le _, fun j hj => absurd hj (by omega), rfl, hX⟩
  · intro σ
    clear hX
    rintro k Hl2 ⟨hk, hno, heq, hX⟩
    replace hk : k ≤ l.length := hk
    replace hno : ∀ j, j < k → l.getD j 0 ≠ x := hno
    replace heq : H = Hl2 := heq
    replace hX : Ext H Hl2 := hX
    subst heq
    obtain ⟨ba, off, hae⟩ := hs.at'
    show XC _ _ _ (upds σ [(0, .slice a l.length c), (1, .func (.func 25) #[] #[.pointer (some ⟨jb, 0, none⟩)]), (7, .int .i64 (l.length : Nat)), (8, .int .i64 (k : Nat))]) _
    refine xc_seq ?_
    refine xc_region ?_
    refine xl_dec rfl rfl rfl (pv_lss rfl rfl rfl) (fun h2_0 => ?_) (fun h2_0 => ?_)
    · skip
      refine xl_nil ?_
      refine xthen_normal ?_
      refine xc_seq ?_
      refine xc_cond_t rfl ?_
      refine xc_skip ?_
      refine xthen_normal ?_
      refine xc_seq ?_
      refine xc_block ?_
      refine xc_seq ?_
      refine xc_region ?_
      refine xl_pure rfl rfl rfl (pv_move (v := .int _ _) rfl rfl) ?_
      refine xl_pure rfl rfl rfl (pv_assign (v := .int _ _) rfl rfl) ?_
      refine xl_nil ?_
      refine xthen_normal ?_
      refine xc_seq ?_
      refine xc_region ?_
      refine xl_pure rfl rfl rfl (pv_move rfl rfl) ?_
      refine xl_pure rfl rfl rfl (pv_move (v := .slice _ _ _) rfl rfl) ?_
      refine xl_pure rfl rfl rfl (pv_move (v := .int _ _) rfl rfl) ?_
      refine xl_pure rfl rfl rfl (pv_indexAddr_l rfl (sl_eq (hae (by omega)).1) rfl (by omega)) ?_
      refine xl_light rfl rfl rfl (lv_load (v := .int _ _) rfl rfl (by exact ld_nth (hae (by omega)).2 (by omega))) ?_
      refine xl_heavy rfl rfl rfl (hv_call (g := 25) rfl rfl (eqJ mj (l.getD k 0)) rfl) ?_
      rintro v4_5 H4_5 ⟨hv4_5, rfl⟩
      rcases hv4_5 with ⟨hi4_5, rfl⟩ | ⟨hi4_5, rfl⟩
      · skip
        refine xl_nil ?_
        refine xthen_normal ?_
        refine xc_cond_t rfl ?_
        refine xc_seq ?_
        refine xc_region ?_
        refine xl_pure rfl rfl rfl (pv_move (v := .int _ _) rfl rfl) ?_
        refine xl_pure rfl rfl rfl (pv_assign (v := .int _ _) rfl rfl) ?_
        refine xl_nil ?_
        refine xthen_normal ?_
        refine xc_ret ?_
        refine xblock_ret ?_
        refine xthen_ret ?_
        refine xthen_ret ?_
        refine xblock_ret ?_
        refine xthen_ret ?_
        refine fin_ret (res1 (v := .int _ _) rfl rfl) ?_
        exact ⟨iv (idI_at (by omega) hi4_5 hno).symm, rfl⟩
      · skip
        refine xl_nil ?_
        refine xthen_normal ?_
        refine xc_cond_f rfl ?_
        refine xc_skip ?_
        refine xblock_normal ?_
        refine xthen_normal ?_
        refine xc_region ?_
        refine xl_pure rfl rfl rfl (pv_add rfl rfl rfl (fit_i64 (by omega))) ?_
        refine xl_pure rfl rfl rfl (pv_move (v := .int _ _) rfl rfl) ?_
        refine xl_nil ?_
        refine xthen_normal ?_
        exact ⟨k + 1, ⟨rfl, rfl, rfl, rfl, trivial⟩, ⟨by (try simp only); omega, nx_all hno hi4_5, rfl, hX⟩, by (try simp only); omega⟩
    · skip
      refine xl_nil ?_
      refine xthen_normal ?_
      refine xc_seq ?_
      refine xc_cond_f rfl ?_
      refine xc_exit ?_
      refine xthen_exit ?_
      refine xthen_exit ?_
      refine xblock_same ?_
      refine xthen_normal ?_
      refine xc_seq ?_
      refine xc_region ?_
      refine xl_pure rfl rfl rfl (pv_assign (v := .int _ _) rfl rfl) ?_
      refine xl_nil ?_
      refine xthen_normal ?_
      refine xc_ret ?_
      refine fin_ret (res1 (v := .int _ _) rfl rfl) ?_
      exact ⟨iv (idI_none (not_in (fun j hj => hno j (by omega)))).symm, rfl⟩

theorem delF {O : Outer} {H : Heap} {gb c : Nat} {ex : List Value} {l : List Int} (mg : Blk H gb (ints l ++ ex) 3) (hex : (ints l ++ ex).length = c) (hcn : l.length ≤ c) (hl : l.length < 1000000) {jb : Nat} {x : Int} (mj : Blk H jb [.int .i64 x] 3) (hne : jb ≠ gb) :
    FnC Try.prog 27 #[.slice (some ⟨gb, 0, none⟩) l.length c, .func (.func 25) #[] #[.pointer (some ⟨jb, 0, none⟩)]] O H (fun v H' => ∃ ex', v = .slice (some ⟨gb, 0, none⟩) (dlI l x).length c ∧ Blk H' gb (ints (dlI l x) ++ ex') 3 ∧ (ints (dlI l x) ++ ex').length = c ∧ But gb H H') := by
  refine fn_enter (A := [.slice (some ⟨gb, 0, none⟩) l.length c, .func (.func 25) #[] #[.pointer (some ⟨jb, 0, none⟩)]]) Try.func27 rfl rfl ?_
  have hX := But.refl gb H
  refine xc_seq ?_
  refine xc_region ?_
  refine xl_pure rfl rfl rfl (pv_assign (v := .slice _ _ _) rfl rfl) ?_
  refine xl_nil ?_
  refine xthen_normal ?_
  refine xc_seq ?_
  refine xc_region ?_
  refine xl_pure rfl rfl rfl (pv_move (v := .slice _ _ _) rfl rfl) ?_
  refine xl_pure rfl rfl rfl (pv_move rfl rfl) ?_
  refine xl_heavy rfl rfl rfl (hv_call (g := 42) rfl rfl (indexF (.inr ⟨_, 0, rfl, mg.row.pre⟩) hl mj) rfl) ?_
  rintro v1_2 H1_2 ⟨rfl, rfl⟩
  refine xl_pure rfl rfl rfl (pv_assign (v := .int _ _) rfl rfl) ?_
  refine xl_nil ?_
  refine xthen_normal ?_
  refine xc_seq ?_
  refine xc_seq ?_
  refine xc_region ?_
  refine xl_pure rfl rfl rfl (pv_move (v := .int _ _) rfl rfl) ?_
  refine xl_dec rfl rfl rfl (pv_eql rfl rfl rfl) (fun h2_1 => ?_) (fun h2_1 => ?_)
  · skip
    refine xl_nil ?_
    refine xthen_normal ?_
    refine xc_cond_t rfl ?_
    refine xc_seq ?_
    refine xc_region ?_
    refine xl_pure rfl rfl rfl (pv_move (v := .slice _ _ _) rfl rfl) ?_
    refine xl_pure rfl rfl rfl (pv_assign (v := .slice _ _ _) rfl rfl) ?_
    refine xl_nil ?_
    refine xthen_normal ?_
    refine xc_ret ?_
    refine xthen_ret ?_
    refine fin_ret (res1 (v := .slice _ _ _) rfl rfl) ?_
    have hnx := idI_neg (by omega); rw [dl_not hnx]; exact ⟨ex, rfl, mg, hex, hX⟩
  · skip
    refine xl_nil ?_
    refine xthen_normal ?_
    refine xc_cond_f rfl ?_
    refine xc_skip ?_
    refine xthen_normal ?_
    refine xc_seq ?_
    refine xc_seq ?_
    obtain ⟨n, hn, hin, hnx, hno⟩ := idI_some h2_1
    have hdn := dl_take_n hn hnx hno
    have hdl : (dlI (l.take (n + 1)) x).length = n := by rw [hdn, List.length_take]; omega
    refine xc_region ?_
    refine xl_pure rfl rfl rfl (pv_move (v := .int _ _) rfl rfl) ?_
    refine xl_pure rfl rfl rfl (pv_add rfl rfl rfl (fit_i64 (by omega))) ?_
    refine xl_pure rfl rfl rfl (pv_assign (v := .int _ _) rfl rfl) ?_
    refine xl_nil ?_
    refine xthen_normal ?_
    refine xc_block ?_
    refine xc_loop (τ := Nat × List Value) (fun t => [(0, .slice (some ⟨gb, 0, none⟩) l.length c), (1, .func (.func 25) #[] #[.pointer (some ⟨jb, 0, none⟩)]), (5, .int .i64 ((dlI (l.take t.1) x).length : Nat)), (6, .int .i64 (t.1 : Nat))]) (fun t H' => (t.1 ≤ l.length) ∧ ((dlI (l.take t.1) x).length + t.2.length = t.1) ∧ (0 < t.2.length) ∧ ((ints (dlI (l.take t.1) x) ++ (t.2 ++ (ints (l.drop t.1) ++ ex))).length = c) ∧ (Blk H' gb (ints (dlI (l.take t.1) x) ++ (t.2 ++ (ints (l.drop t.1) ++ ex))) 3) ∧ (Blk H' jb [.int .i64 x] 3) ∧ (But gb H H')) (fun t H' => l.length - t.1) ((n + 1), [.int .i64 x]) ?_ ?_ ?_
    · exact ⟨rfl, rfl, iv (by rw [hin, hdl]), iv (by rw [hin]; rfl), trivial⟩
    · skip
      exact ⟨hn, by rw [hdl]; rfl, Nat.one_pos, by rw [dl_start hn hnx hdn]; exact hex, by rw [dl_start hn hnx hdn]; exact mg, mj, hX⟩
    · intro σ
      clear hX mg mj
      rintro ⟨j, mid⟩ Hl5 ⟨hj, hm, hm1, hxl, mg, mj, hX⟩
      replace hj : j ≤ l.length := hj
      replace hm : (dlI (l.take j) x).length + mid.length = j := hm
      replace hm1 : 0 < mid.length := hm1
      replace hxl : (ints (dlI (l.take j) x) ++ (mid ++ (ints (l.drop j) ++ ex))).length = c := hxl
      replace mg : Blk Hl5 gb (ints (dlI (l.take j) x) ++ (mid ++ (ints (l.drop j) ++ ex))) 3 := mg
      replace mj : Blk Hl5 jb [.int .i64 x] 3 := mj
      replace hX : But gb H Hl5 := hX
      show XC _ _ _ (upds σ [(0, .slice (some ⟨gb, 0, none⟩) l.length c), (1, .func (.func 25) #[] #[.pointer (some ⟨jb, 0, none⟩)]), (5, .int .i64 ((dlI (l.take j) x).length : Nat)), (6, .int .i64 (j : Nat))]) _
      refine xc_seq ?_
      refine xc_seq ?_
      refine xc_region ?_
      refine xl_pure rfl rfl rfl (pv_move (v := .int _ _) rfl rfl) ?_
      refine xl_pure rfl rfl rfl (pv_move (v := .slice _ _ _) rfl rfl) ?_
      refine xl_pure rfl rfl rfl (pv_len_l rfl rfl) ?_
      refine xl_dec rfl rfl rfl (pv_lss rfl rfl rfl) (fun h5_3 => ?_) (fun h5_3 => ?_)
      · skip
        refine xl_nil ?_
        refine xthen_normal ?_
        refine xc_cond_t rfl ?_
        refine xc_skip ?_
        refine xthen_normal ?_
        refine xc_seq ?_
        refine xc_block ?_
        refine xc_seq ?_
        refine xc_region ?_
        refine xl_pure rfl rfl rfl (pv_move (v := .slice _ _ _) rfl rfl) ?_
        refine xl_pure rfl rfl rfl (pv_move (v := .int _ _) rfl rfl) ?_
        refine xl_pure rfl rfl rfl (pv_indexAddr_l rfl rfl rfl (by omega)) ?_
        refine xl_light rfl rfl rfl (lv_load (v := .int _ _) rfl rfl (by exact ld_del mg hm (by omega))) ?_
        refine xl_pure rfl rfl rfl (pv_assign (v := .int _ _) rfl rfl) ?_
        refine xl_nil ?_
        refine xthen_normal ?_
        refine xc_seq ?_
        refine xc_region ?_
        refine xl_pure rfl rfl rfl (pv_move rfl rfl) ?_
        refine xl_pure rfl rfl rfl (pv_move (v := .int _ _) rfl rfl) ?_
        refine xl_heavy rfl rfl rfl (hv_call (g := 25) rfl rfl (eqJ mj (l.getD j 0)) rfl) ?_
        rintro v8_2 H8_2 ⟨hv8_2, rfl⟩
        rcases hv8_2 with ⟨hi8_2, rfl⟩ | ⟨hi8_2, rfl⟩
        · skip
          refine xl_pure rfl rfl rfl (pv_not rfl rfl) ?_
          refine xl_nil ?_
          refine xthen_normal ?_
          refine xc_cond_f rfl ?_
          refine xc_skip ?_
          refine xblock_normal ?_
          refine xthen_normal ?_
          refine xc_region ?_
          refine xl_pure rfl rfl rfl (pv_move (v := .int _ _) rfl rfl) ?_
          refine xl_pure rfl rfl rfl (pv_add rfl rfl rfl (fit_i64 (by omega))) ?_
          refine xl_pure rfl rfl rfl (pv_assign (v := .int _ _) rfl rfl) ?_
          refine xl_nil ?_
          refine xthen_normal ?_
          first
            | exact ⟨(j + 1, mid ++ [.int .i64 (l.getD j 0)]), ⟨rfl, rfl, iv (by rw [dl_take (by omega), if_pos hi8_2, List.append_nil]), rfl, trivial⟩, ⟨by (try simp only); omega, by rw [dl_take (by omega), if_pos hi8_2, List.append_nil, List.length_append]; show _ + (_ + 1) = _; omega, by rw [List.length_append]; omega, by rw [dl_take (by omega), if_pos hi8_2, List.append_nil]; rw [drop_gd (by omega)] at hxl; simpa using hxl, by rw [dl_take (by omega), if_pos hi8_2, List.append_nil]; exact del_go mg (by omega), mj, hX⟩, by (try simp only); omega⟩
            | exact ⟨(j + 1, mid ++ [.int .i64 (l.getD j 0)]), ⟨rfl, rfl, iv (by rw [dl_take (by omega), if_neg hi8_2, List.length_append]; rfl), rfl, trivial⟩, ⟨by (try simp only); omega, by rw [dl_take (by omega), if_neg hi8_2, List.length_append, List.length_append]; simp only [List.length_cons, List.length_nil] at hm ⊢; omega, by rw [List.length_append]; show 0 < _ + 1; omega, by rw [dl_take (by omega), if_neg hi8_2, ← del_stay (m := m) (by omega), setRange_length]; exact hxl, by rw [dl_take (by omega), if_neg hi8_2]; exact mgU, mj, hX⟩, by (try simp only); omega⟩
        · skip
          refine xl_pure rfl rfl rfl (pv_not rfl rfl) ?_
          refine xl_nil ?_
          refine xthen_normal ?_
          refine xc_cond_t rfl ?_
          refine xc_seq ?_
          obtain ⟨m, mid, rfl⟩ : ∃ m mid', mid = m :: mid' := by cases mid; exact absurd hm (by simp only [List.length_nil]; omega); exact ⟨_, _, rfl⟩
          have hkl : (dlI (l.take j) x).length ≤ j := by simp only [List.length_cons] at hm; omega
          refine xc_region ?_
          refine xl_pure rfl rfl rfl (pv_move (v := .slice _ _ _) rfl rfl) ?_
          refine xl_pure rfl rfl rfl (pv_move (v := .int _ _) rfl rfl) ?_
          refine xl_pure rfl rfl rfl (pv_move (v := .int _ _) rfl rfl) ?_
          refine xl_pure rfl rfl rfl (pv_indexAddr_l rfl rfl rfl (by omega)) ?_
          refine xl_store rfl rfl (hv_store (vs := [.int .i64 (l.getD j 0)]) rfl rfl rfl mg rfl (by rw [hxl]; show 0 + (dlI (l.take j) x).length * 1 + 1 ≤ c; omega) rfl) ?_
          rintro v9_4 H9_4 ⟨hU9_4, hZ9_4⟩
          have mj := mj.but hU9_4.but hne
          have hX := hX.trans hU9_4.but
          have mgU := hU9_4.blk
          rw [Int.toNat_natCast, del_stay (by omega)] at mgU
          refine xl_nil ?_
          refine xthen_normal ?_
          refine xc_region ?_
          refine xl_pure rfl rfl rfl (pv_move (v := .int _ _) rfl rfl) ?_
          refine xl_pure rfl rfl rfl (pv_add rfl rfl rfl (fit_i64 (by omega))) ?_
          refine xl_pure rfl rfl rfl (pv_assign (v := .int _ _) rfl rfl) ?_
          refine xl_nil ?_
          refine xblock_normal ?_
          refine xthen_normal ?_
          refine xc_region ?_
          refine xl_pure rfl rfl rfl (pv_move (v := .int _ _) rfl rfl) ?_
          refine xl_pure rfl rfl rfl (pv_add rfl rfl rfl (fit_i64 (by omega))) ?_
          refine xl_pure rfl rfl rfl (pv_assign (v := .int _ _) rfl rfl) ?_
          refine xl_nil ?_
          refine xthen_normal ?_
          first
            | exact ⟨(j + 1, mid ++ [.int .i64 (l.getD j 0)]), ⟨rfl, rfl, iv (by rw [dl_take (by omega), if_pos hi8_2, List.append_nil]), rfl, trivial⟩, ⟨by (try simp only); omega, by rw [dl_take (by omega), if_pos hi8_2, List.append_nil, List.length_append]; show _ + (_ + 1) = _; omega, by rw [List.length_append]; omega, by rw [dl_take (by omega), if_pos hi8_2, List.append_nil]; rw [drop_gd (by omega)] at hxl; simpa using hxl, by rw [dl_take (by omega), if_pos hi8_2, List.append_nil]; exact del_go mg (by omega), mj, hX⟩, by (try simp only); omega⟩
            | exact ⟨(j + 1, mid ++ [.int .i64 (l.getD j 0)]), ⟨rfl, rfl, iv (by rw [dl_take (by omega), if_neg hi8_2, List.length_append]; rfl), rfl, trivial⟩, ⟨by (try simp only); omega, by rw [dl_take (by omega), if_neg hi8_2, List.length_append, List.length_append]; simp only [List.length_cons, List.length_nil] at hm ⊢; omega, by rw [List.length_append]; show 0 < _ + 1; omega, by rw [dl_take (by omega), if_neg hi8_2, ← del_stay (m := m) (by omega), setRange_length]; exact hxl, by rw [dl_take (by omega), if_neg hi8_2]; exact mgU, mj, hX⟩, by (try simp only); omega⟩
      · skip
        refine xl_nil ?_
        refine xthen_normal ?_
        refine xc_cond_f rfl ?_
        refine xc_exit ?_
        refine xthen_exit ?_
        refine xthen_exit ?_
        refine xblock_same ?_
        refine xthen_normal ?_
        refine xc_seq ?_
        have hjl : j = l.length := by omega
        have hdj : (dlI (l.take j) x) = dlI l x := by rw [hjl, List.take_length]
        have hz : ints (l.drop j) = [] := by rw [hjl, List.drop_length]; rfl
        have hlt : (dlI l x).length < l.length := by rw [← hdj]; omega
        refine xc_region ?_
        refine xl_pure rfl rfl rfl (pv_move (v := .slice _ _ _) rfl rfl) ?_
        refine xl_pure rfl rfl rfl (pv_move (v := .int _ _) rfl rfl) ?_
        refine xl_pure rfl rfl rfl (pv_slice_l rfl rfl (.none _) (.none _) (.some rfl (by omega)) (by omega) (by simp)) ?_
        refine xl_store rfl rfl (hv_clear (off := 0 + (dlI (l.take j) x).length * 1) (n := l.length - (dlI (l.take j) x).length) rfl (congrArg (fun a => Value.slice a (l.length - (dlI (l.take j) x).length) (c - (dlI (l.take j) x).length)) (cut_at (size := 1) (by omega))) (by omega) rfl mg (by rw [zeroCells_len, hxl]; show 0 + (dlI (l.take j) x).length * 1 + (l.length - (dlI (l.take j) x).length) * 1 ≤ _; omega) (zeroCells_one _ _ (by decide) (by decide))) ?_
        rintro v11_3 H11_3 hU11_3
        have hX := hX.trans hU11_3.but
        have mgz := hU11_3.blk
        have hzl := setRange_length (Builtin.zeroCells (Value.int .i64 0).cells (l.length - (dlI (l.take j) x).length)).toList (ints (dlI (l.take j) x) ++ (mid ++ (ints (l.drop j) ++ ex))) (0 + (dlI (l.take j) x).length * 1)
        obtain ⟨r, hr⟩ := setRange_pre (Builtin.zeroCells (Value.int .i64 0).cells (l.length - (dlI (l.take j) x).length)).toList (ints (dlI (l.take j) x)) (mid ++ (ints (l.drop j) ++ ex)) (0 + (dlI (l.take j) x).length * 1) (by rw [ints_len1]; omega)
        rw [hr] at mgz hzl
        rw [hdj] at mgz hzl
        have hzc := hzl.trans (hdj ▸ hxl)
        refine xl_nil ?_
        refine xthen_normal ?_
        refine xc_seq ?_
        refine xc_region ?_
        refine xl_pure rfl rfl rfl (pv_move (v := .slice _ _ _) rfl rfl) ?_
        refine xl_pure rfl rfl rfl (pv_move (v := .int _ _) rfl rfl) ?_
        refine xl_pure rfl rfl rfl (pv_slice_l rfl rfl (.none _) (.some rfl (by omega)) (.none _) (by omega) (by simp)) ?_
        refine xl_pure rfl rfl rfl (pv_assign (v := .slice _ _ _) rfl rfl) ?_
        refine xl_nil ?_
        refine xthen_normal ?_
        refine xc_ret ?_
        refine fin_ret (res1 (v := .slice _ _ _) rfl rfl) ?_
        exact ⟨r, by rw [hdj]; exact sl_cut0, mgz, hzc, hX⟩

theorem delN {O : Outer} {H : Heap} {jb : Nat} {x : Int} (mj : Blk H jb [.int .i64 x] 3) :
    FnC Try.prog 27 #[.slice none 0 0, .func (.func 25) #[] #[.pointer (some ⟨jb, 0, none⟩)]] O H (fun v H' => v = .slice none 0 0 ∧ H = H') := by
  refine fn_enter (A := [.slice none 0 0, .func (.func 25) #[] #[.pointer (some ⟨jb, 0, none⟩)]]) Try.func27 rfl rfl ?_
  have hX := Ext.refl H
  refine xc_seq ?_
  refine xc_region ?_
  refine xl_pure rfl rfl rfl (pv_assign (v := .slice _ _ _) rfl rfl) ?_
  refine xl_nil ?_
  refine xthen_normal ?_
  refine xc_seq ?_
  refine xc_region ?_
  refine xl_pure rfl rfl rfl (pv_move (v := .slice _ _ _) rfl rfl) ?_
  refine xl_pure rfl rfl rfl (pv_move rfl rfl) ?_
  refine xl_heavy rfl rfl rfl (hv_call (g := 42) rfl rfl (indexF (l := []) (.inl rfl) (by decide) mj) rfl) ?_
  rintro v1_2 H1_2 ⟨rfl, rfl⟩
  refine xl_pure rfl rfl rfl (pv_assign (v := .int _ _) rfl rfl) ?_
  refine xl_nil ?_
  refine xthen_normal ?_
  refine xc_seq ?_
  refine xc_seq ?_
  refine xc_region ?_
  refine xl_pure rfl rfl rfl (pv_move (v := .int _ _) rfl rfl) ?_
  refine xl_dec rfl rfl rfl (pv_eql rfl rfl rfl) (fun h2_1 => ?_) (fun h2_1 => ?_)
  · skip
    refine xl_nil ?_
    refine xthen_normal ?_
    refine xc_cond_t rfl ?_
    refine xc_seq ?_
    refine xc_region ?_
    refine xl_pure rfl rfl rfl (pv_move (v := .slice _ _ _) rfl rfl) ?_
    refine xl_pure rfl rfl rfl (pv_assign (v := .slice _ _ _) rfl rfl) ?_
    refine xl_nil ?_
    refine xthen_normal ?_
    refine xc_ret ?_
    refine xthen_ret ?_
    refine fin_ret (res1 (v := .slice _ _ _) rfl rfl) ?_
    exact ⟨rfl, rfl⟩
  · exact absurd rfl h2_1

theorem delK {O : Outer} {H : Heap} {a : Option Addr} {c jb : Nat} {l : List Int} {x : Int} (hI : IO H a c l) (hl : l.length < 1000000) (mj : Blk H jb [.int .i64 x] 3) (hne : ¬ bk a jb) :
    FnC Try.prog 27 #[.slice a l.length c, .func (.func 25) #[] #[.pointer (some ⟨jb, 0, none⟩)]] O H (fun v H' => v = .slice a (dlI l x).length c ∧ IO H' a c (dlI l x) ∧ KeepF (bk a) H H') := by
  rcases hI.blk with ⟨rfl, rfl, rfl⟩ | ⟨g, ex, rfl, h2, h3, h4, h5⟩
  · exact (delN mj).mono fun v H' ⟨h1, h2⟩ => by subst h2; exact ⟨h1, hI, KeepF.refl _ _⟩
  · exact (delF h2 h5 h3 hl mj (fun e => hne ⟨_, rfl, e.symm⟩)).mono fun v H' ⟨ex', g1, g2, g3, g4⟩ => ⟨g1, io_mk g2 (Nat.le_trans dl_len h3) h4 g3, ⟨g4.size, fun i hi hn => g4.same i hi (fun e => hn ⟨_, rfl, e.symm⟩)⟩⟩
theorem cloneK {O : Outer} {H : Heap} {a : Option Addr} {c n : Nat} {l : List Int} (hn : l.length = n) (hs : Ints H a l) (hl : l.length < 1000000) :
    FnC Try.prog 28 #[.slice a n c] O H (fun v H' => ∃ a' c', v = .slice a' n c' ∧ IO H' a' c' l ∧ (∀ j, bk a' j → H.size ≤ j) ∧ Ext H H') := by
  subst hn; exact clone hs hl
end Go.XG
