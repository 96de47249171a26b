/-
  Walks of the seat's functions over the logic XG: each function, what it computes. Printed by a program out of wip/walks.py.
-/
import Derived.Test.YtbcbgjikgilpcaaI
import Derived.Test.YtbcbgjikgilpcaaM
import Derived.Test.YtbcbgjikgilpcaaGc
import Derived.Test.YtbcbgjikgilpcaaWa
import Derived.Test.YtbcbgjikgilpcaaWb
import Derived.Test.YtbcbgjikgilpcaaWc
import Derived.Test.YtbcbgjikgilpcaaWd
import Derived.Test.YtbcbgjikgilpcaaWe
import Derived.Test.YtbcbgjikgilpcaaWf
namespace Go.XG
open Go.Proofs
set_option maxRecDepth 4000
set_option maxHeartbeats 4000000
theorem gRolesG {O : Outer} {H : Heap} {bp B : Nat} {X : List (List (List Int))} (h : GAt H bp B X) (hG : GOk X) (id ch : Int) :
    FnC Try.prog 34 #[.pointer (some ⟨bp, 0, none⟩), .int .i64 id, .int .i64 ch] O H (fun v H' => v = .tuple #[.int .i64 (rolN X id ch), .int .i64 (rolE X id ch)] ∧ Ext H H') := by
  obtain ⟨a, c, hs, mp, hO, hM⟩ := h
  exact gRoles mp hO hM hG id ch

theorem gMembersG {O : Outer} {H : Heap} {bp B : Nat} {X : List (List (List Int))} (h : GAt H bp B X) (hG : GOk X) (id : Int) :
    FnC Try.prog 38 #[.pointer (some ⟨bp, 0, none⟩), .int .i64 id] O H (fun v H' => (inG X id ∧ (∃ a' c', v = .tuple #[.slice a' (gM X (ix id)).length c', .int .i64 0] ∧ RowsT H' 56 2 a' (gM X (ix id))) ∨ ¬ inG X id ∧ v = .tuple #[.slice none 0 0, .int .i64 3]) ∧ Ext H H') := by
  obtain ⟨a, c, hs, mp, hO, hM⟩ := h
  exact gMembers mp hO hM hG id

theorem gFoundG {O : Outer} {H : Heap} {bp B : Nat} {X : List (List (List Int))} (h : GAt H bp B X) (hG : GOk X) (hB : B ≤ H.size) (ch : Int) :
    FnC Try.prog 21 #[.pointer (some ⟨bp, 0, none⟩), .int .i64 ch] O H (fun v H' => v = .tuple #[.int .i64 (fouN X ch), .int .i64 (fouE X ch)] ∧ GAt H' bp B (fouX X ch) ∧ KeepF (GF H bp B) H H') := by
  obtain ⟨a, c, hs, mp, hO, hM⟩ := h
  exact gFound mp hO hM hG hB ch

theorem gEnrolG {O : Outer} {H : Heap} {bp B : Nat} {X : List (List (List Int))} (h : GAt H bp B X) (hG : GOk X) (id ch r : Int) :
    FnC Try.prog 22 #[.pointer (some ⟨bp, 0, none⟩), .int .i64 id, .int .i64 ch, .int .i64 r] O H (fun v H' => v = .int .i64 (enrE X id ch r) ∧ GAt H' bp B (enrX X id ch r) ∧ KeepF (GF H bp B) H H') := by
  obtain ⟨a, c, hs, mp, hO, hM⟩ := h
  exact gEnrol mp hO hM hG id ch r

theorem gExpelG {O : Outer} {H : Heap} {bp B : Nat} {X : List (List (List Int))} (h : GAt H bp B X) (hG : GOk X) (id ch : Int) :
    FnC Try.prog 23 #[.pointer (some ⟨bp, 0, none⟩), .int .i64 id, .int .i64 ch] O H (fun v H' => v = .int .i64 (expE X id ch) ∧ GAt H' bp B (expX X id ch) ∧ KeepF (GF H bp B) H H') := by
  obtain ⟨a, c, hs, mp, hO, hM⟩ := h
  exact gExpel mp hO hM hG id ch

theorem gf_ge {H H1 : Heap} {bp : Nat} (hp : H.size ≤ bp) : ∀ i, GF H1 bp H.size i → H.size ≤ i := fun i h => by
  rcases h with rfl | ⟨h, _⟩
  · exact hp
  · exact h
theorem blk_gf {H H1 : Heap} {b bp B : Nat} {cs : List Value} (h : Blk H b cs 47) (hne : b ≠ bp) (k : KeepF (GF H bp B) H H1) : Blk H1 b cs 47 := h.keep k (fun hf => by
  rcases hf with rfl | ⟨_, cs', h2⟩
  · exact hne rfl
  · exact h2.ne h rfl rfl)
theorem rowsT_gf {H H1 : Heap} {bp B : Nat} {a : Option Addr} {l : List (List Int)} (h : RowsT H 56 2 a l) (k : KeepF (GF H bp B) H H1) (hp : ∃ cs, Blk H bp cs 47) : RowsT H1 56 2 a l := ⟨h.wide, h.h.imp id fun ⟨g, o, cs, h1, h2, h3⟩ => ⟨g, o, cs, h1, h2.keep k (fun hf => by
  obtain ⟨pcs, hp⟩ := hp
  rcases hf with rfl | ⟨_, cs', h5⟩
  · exact hp.ne h2 rfl rfl
  · exact h5.ne h2 rfl rfl), h3⟩⟩

theorem tup2i {a b c d : Int} (h1 : a = b) (h2 : c = d) : Value.tuple #[.int .i64 a, .int .i64 c] = .tuple #[.int .i64 b, .int .i64 d] := by rw [h1, h2]
theorem tkE_iff {d : Int} : tkE d = 0 ↔ 1 ≤ d ∧ d ≤ 4 := by unfold tkE; split <;> omega
theorem fdiv0 {n : Int} : n.fdiv (2 ^ min (0 : Int).toNat IntKind.i64.bits) = n := Int.fdiv_one n

theorem gIsChars {O : Outer} {H : Heap} (n : Int) :
    FnC Try.prog 33 #[.int .i64 n] O H (fun v H' => ((isC n ∧ v = .bool true ∨ ¬ isC n ∧ v = .bool false) ∧ H = H')) := by
  refine fn_enter (A := [.int .i64 n]) Try.func33 rfl rfl ?_
  have hX := Ext.refl H
  refine xc_seq ?_
  refine xc_region ?_
  refine xl_pure rfl rfl rfl (pv_assign (v := .bool _) rfl rfl) ?_
  refine xl_nil ?_
  refine xthen_normal ?_
  refine xc_seq ?_
  refine xc_region ?_
  refine xl_pure rfl rfl rfl (pv_move (v := .int _ _) rfl rfl) ?_
  refine xl_dec rfl rfl rfl (pv_geq rfl rfl rfl) (fun h1_1 => ?_) (fun h1_1 => ?_)
  · skip
    refine xl_pure rfl rfl rfl (pv_move (v := .bool _) rfl rfl) ?_
    refine xl_pure rfl rfl rfl (pv_move (v := .int _ _) rfl rfl) ?_
    refine xl_dec rfl rfl rfl (pv_leq rfl rfl rfl) (fun h1_4 => ?_) (fun h1_4 => ?_)
    · skip
      refine xl_pure rfl rfl rfl (pv_pick_t (v := .bool _) rfl rfl rfl) ?_
      refine xl_pure rfl rfl rfl (pv_assign (v := .bool _) rfl rfl) ?_
      refine xl_nil ?_
      refine xthen_normal ?_
      refine xc_ret ?_
      refine fin_ret (res1 (v := .bool _) rfl rfl) ?_
      first
        | exact ⟨.inl ⟨by unfold isC; omega, rfl⟩, rfl⟩
        | exact ⟨.inr ⟨by unfold isC; omega, rfl⟩, rfl⟩
    · skip
      refine xl_pure rfl rfl rfl (pv_pick_t (v := .bool _) rfl rfl rfl) ?_
      refine xl_pure rfl rfl rfl (pv_assign (v := .bool _) rfl rfl) ?_
      refine xl_nil ?_
      refine xthen_normal ?_
      refine xc_ret ?_
      refine fin_ret (res1 (v := .bool _) rfl rfl) ?_
      first
        | exact ⟨.inl ⟨by unfold isC; omega, rfl⟩, rfl⟩
        | exact ⟨.inr ⟨by unfold isC; omega, rfl⟩, rfl⟩
  · skip
    refine xl_pure rfl rfl rfl (pv_move (v := .bool _) rfl rfl) ?_
    refine xl_skip rfl rfl rfl ?_
    refine xl_skip rfl rfl rfl ?_
    refine xl_pure rfl rfl rfl (pv_pick_f (v := .bool _) rfl rfl rfl) ?_
    refine xl_pure rfl rfl rfl (pv_assign (v := .bool _) rfl rfl) ?_
    refine xl_nil ?_
    refine xthen_normal ?_
    refine xc_ret ?_
    refine fin_ret (res1 (v := .bool _) rfl rfl) ?_
    first
      | exact ⟨.inl ⟨by unfold isC; omega, rfl⟩, rfl⟩
      | exact ⟨.inr ⟨by unfold isC; omega, rfl⟩, rfl⟩

theorem gLeads {O : Outer} {H : Heap} (n : Int) (hr : isR n) :
    FnC Try.prog 48 #[.int .i64 n] O H (fun v H' => ((n % 2 = 1 ∧ v = .bool true ∨ ¬ n % 2 = 1 ∧ v = .bool false) ∧ H = H')) := by
  refine fn_enter (A := [.int .i64 n]) Try.func48 rfl rfl ?_
  have hX := Ext.refl H
  refine xc_seq ?_
  refine xc_region ?_
  refine xl_pure rfl rfl rfl (pv_assign (v := .bool _) rfl rfl) ?_
  refine xl_nil ?_
  refine xthen_normal ?_
  refine xc_seq ?_
  refine xc_region ?_
  refine xl_pure rfl rfl rfl (pv_move (v := .int _ _) rfl rfl) ?_
  refine xl_pure rfl rfl rfl (pv_shr (r := n) rfl rfl rfl (by decide) fdiv0) ?_
  refine xl_pure rfl rfl rfl (pv_and (r := n % 2) rfl rfl rfl (and1i hr.1 (by have := hr.2; omega))) ?_
  refine xl_dec rfl rfl rfl (pv_eql rfl rfl rfl) (fun h1_3 => ?_) (fun h1_3 => ?_)
  · skip
    refine xl_pure rfl rfl rfl (pv_assign (v := .bool _) rfl rfl) ?_
    refine xl_nil ?_
    refine xthen_normal ?_
    refine xc_ret ?_
    refine fin_ret (res1 (v := .bool _) rfl rfl) ?_
    first
      | exact ⟨.inl ⟨by omega, rfl⟩, rfl⟩
      | exact ⟨.inr ⟨by omega, rfl⟩, rfl⟩
  · skip
    refine xl_pure rfl rfl rfl (pv_assign (v := .bool _) rfl rfl) ?_
    refine xl_nil ?_
    refine xthen_normal ?_
    refine xc_ret ?_
    refine fin_ret (res1 (v := .bool _) rfl rfl) ?_
    first
      | exact ⟨.inl ⟨by omega, rfl⟩, rfl⟩
      | exact ⟨.inr ⟨by omega, rfl⟩, rfl⟩

theorem gHas {O : Outer} {H : Heap} (r n : Int) :
    FnC Try.prog 35 #[.int .i64 r, .int .i64 n] O H (fun v H' => ((hasN r n ∧ v = .bool true ∨ ¬ hasN r n ∧ v = .bool false) ∧ H = H')) := by
  refine fn_enter (A := [.int .i64 r, .int .i64 n]) Try.func35 rfl rfl ?_
  have hX := Ext.refl H
  refine xc_seq ?_
  refine xc_region ?_
  refine xl_pure rfl rfl rfl (pv_assign (v := .bool _) rfl rfl) ?_
  refine xl_nil ?_
  refine xthen_normal ?_
  refine xc_seq ?_
  refine xc_region ?_
  refine xl_pure rfl rfl rfl (pv_move (v := .int _ _) rfl rfl) ?_
  refine xl_heavy rfl rfl rfl (hv_call (g := 45) rfl rfl (gIs r) rfl) ?_
  rintro v1_1 H1_1 ⟨hv1_1, rfl⟩
  rcases hv1_1 with ⟨hi1_1, rfl⟩ | ⟨hi1_1, rfl⟩
  · skip
    refine xl_pure rfl rfl rfl (pv_move (v := .bool _) rfl rfl) ?_
    refine xl_pure rfl rfl rfl (pv_move (v := .int _ _) rfl rfl) ?_
    refine xl_heavy rfl rfl rfl (hv_call (g := 45) rfl rfl (gIs n) rfl) ?_
    rintro v1_4 H1_4 ⟨hv1_4, rfl⟩
    rcases hv1_4 with ⟨hi1_4, rfl⟩ | ⟨hi1_4, rfl⟩
    · skip
      refine xl_pure rfl rfl rfl (pv_pick_t (v := .bool _) rfl rfl rfl) ?_
      refine xl_pure rfl rfl rfl (pv_move (v := .bool _) rfl rfl) ?_
      refine xl_pure rfl rfl rfl (pv_move (v := .int _ _) rfl rfl) ?_
      refine xl_heavy rfl rfl rfl (hv_call (g := 48) rfl rfl (gLeads r hi1_1) rfl) ?_
      rintro v1_8 H1_8 ⟨hv1_8, rfl⟩
      rcases hv1_8 with ⟨hi1_8, rfl⟩ | ⟨hi1_8, rfl⟩
      · skip
        refine xl_pure rfl rfl rfl (pv_move (v := .bool _) rfl rfl) ?_
        refine xl_skip rfl rfl rfl ?_
        refine xl_skip rfl rfl rfl ?_
        refine xl_skip rfl rfl rfl ?_
        refine xl_skip rfl rfl rfl ?_
        refine xl_pure rfl rfl rfl (pv_pick_t (v := .bool _) rfl rfl rfl) ?_
        refine xl_pure rfl rfl rfl (pv_pick_t (v := .bool _) rfl rfl rfl) ?_
        refine xl_pure rfl rfl rfl (pv_assign (v := .bool _) rfl rfl) ?_
        refine xl_nil ?_
        refine xthen_normal ?_
        refine xc_ret ?_
        refine fin_ret (res1 (v := .bool _) rfl rfl) ?_
        first
          | exact ⟨.inl ⟨has_lead hi1_1 hi1_4 hi1_8, rfl⟩, rfl⟩
          | exact ⟨.inl ⟨has_cov hi1_1 hi1_4 h1_13, rfl⟩, rfl⟩
          | exact ⟨.inr ⟨has_not hi1_8 h1_13, rfl⟩, rfl⟩
          | exact ⟨.inr ⟨fun h => hi1_4 h.2.1, rfl⟩, rfl⟩
          | exact ⟨.inr ⟨fun h => hi1_1 h.1, rfl⟩, rfl⟩
      · skip
        refine xl_pure rfl rfl rfl (pv_move (v := .bool _) rfl rfl) ?_
        refine xl_pure rfl rfl rfl (pv_move (v := .int _ _) rfl rfl) ?_
        refine xl_pure rfl rfl rfl (pv_move (v := .int _ _) rfl rfl) ?_
        refine xl_pure rfl rfl rfl (pv_andNot rfl rfl rfl rfl) ?_
        refine xl_dec rfl rfl rfl (pv_eql rfl rfl rfl) (fun h1_13 => ?_) (fun h1_13 => ?_)
        · skip
          refine xl_pure rfl rfl rfl (pv_pick_f (v := .bool _) rfl rfl rfl) ?_
          refine xl_pure rfl rfl rfl (pv_pick_t (v := .bool _) rfl rfl rfl) ?_
          refine xl_pure rfl rfl rfl (pv_assign (v := .bool _) rfl rfl) ?_
          refine xl_nil ?_
          refine xthen_normal ?_
          refine xc_ret ?_
          refine fin_ret (res1 (v := .bool _) rfl rfl) ?_
          first
            | exact ⟨.inl ⟨has_lead hi1_1 hi1_4 hi1_8, rfl⟩, rfl⟩
            | exact ⟨.inl ⟨has_cov hi1_1 hi1_4 h1_13, rfl⟩, rfl⟩
            | exact ⟨.inr ⟨has_not hi1_8 h1_13, rfl⟩, rfl⟩
            | exact ⟨.inr ⟨fun h => hi1_4 h.2.1, rfl⟩, rfl⟩
            | exact ⟨.inr ⟨fun h => hi1_1 h.1, rfl⟩, rfl⟩
        · skip
          refine xl_pure rfl rfl rfl (pv_pick_f (v := .bool _) rfl rfl rfl) ?_
          refine xl_pure rfl rfl rfl (pv_pick_t (v := .bool _) rfl rfl rfl) ?_
          refine xl_pure rfl rfl rfl (pv_assign (v := .bool _) rfl rfl) ?_
          refine xl_nil ?_
          refine xthen_normal ?_
          refine xc_ret ?_
          refine fin_ret (res1 (v := .bool _) rfl rfl) ?_
          first
            | exact ⟨.inl ⟨has_lead hi1_1 hi1_4 hi1_8, rfl⟩, rfl⟩
            | exact ⟨.inl ⟨has_cov hi1_1 hi1_4 h1_13, rfl⟩, rfl⟩
            | exact ⟨.inr ⟨has_not hi1_8 h1_13, rfl⟩, rfl⟩
            | exact ⟨.inr ⟨fun h => hi1_4 h.2.1, rfl⟩, rfl⟩
            | exact ⟨.inr ⟨fun h => hi1_1 h.1, rfl⟩, rfl⟩
    · skip
      refine xl_pure rfl rfl rfl (pv_pick_t (v := .bool _) rfl rfl rfl) ?_
      refine xl_pure rfl rfl rfl (pv_move (v := .bool _) rfl rfl) ?_
      refine xl_skip rfl rfl rfl ?_
      refine xl_skip rfl rfl rfl ?_
      refine xl_skip rfl rfl rfl ?_
      refine xl_skip rfl rfl rfl ?_
      refine xl_skip rfl rfl rfl ?_
      refine xl_skip rfl rfl rfl ?_
      refine xl_skip rfl rfl rfl ?_
      refine xl_skip rfl rfl rfl ?_
      refine xl_pure rfl rfl rfl (pv_pick_f (v := .bool _) rfl rfl rfl) ?_
      refine xl_pure rfl rfl rfl (pv_assign (v := .bool _) rfl rfl) ?_
      refine xl_nil ?_
      refine xthen_normal ?_
      refine xc_ret ?_
      refine fin_ret (res1 (v := .bool _) rfl rfl) ?_
      first
        | exact ⟨.inl ⟨has_lead hi1_1 hi1_4 hi1_8, rfl⟩, rfl⟩
        | exact ⟨.inl ⟨has_cov hi1_1 hi1_4 h1_13, rfl⟩, rfl⟩
        | exact ⟨.inr ⟨has_not hi1_8 h1_13, rfl⟩, rfl⟩
        | exact ⟨.inr ⟨fun h => hi1_4 h.2.1, rfl⟩, rfl⟩
        | exact ⟨.inr ⟨fun h => hi1_1 h.1, rfl⟩, rfl⟩
  · skip
    refine xl_pure rfl rfl rfl (pv_move (v := .bool _) rfl rfl) ?_
    refine xl_skip rfl rfl rfl ?_
    refine xl_skip rfl rfl rfl ?_
    refine xl_pure rfl rfl rfl (pv_pick_f (v := .bool _) rfl rfl rfl) ?_
    refine xl_pure rfl rfl rfl (pv_move (v := .bool _) rfl rfl) ?_
    refine xl_skip rfl rfl rfl ?_
    refine xl_skip rfl rfl rfl ?_
    refine xl_skip rfl rfl rfl ?_
    refine xl_skip rfl rfl rfl ?_
    refine xl_skip rfl rfl rfl ?_
    refine xl_skip rfl rfl rfl ?_
    refine xl_skip rfl rfl rfl ?_
    refine xl_skip rfl rfl rfl ?_
    refine xl_pure rfl rfl rfl (pv_pick_f (v := .bool _) rfl rfl rfl) ?_
    refine xl_pure rfl rfl rfl (pv_assign (v := .bool _) rfl rfl) ?_
    refine xl_nil ?_
    refine xthen_normal ?_
    refine xc_ret ?_
    refine fin_ret (res1 (v := .bool _) rfl rfl) ?_
    first
      | exact ⟨.inl ⟨has_lead hi1_1 hi1_4 hi1_8, rfl⟩, rfl⟩
      | exact ⟨.inl ⟨has_cov hi1_1 hi1_4 h1_13, rfl⟩, rfl⟩
      | exact ⟨.inr ⟨has_not hi1_8 h1_13, rfl⟩, rfl⟩
      | exact ⟨.inr ⟨fun h => hi1_4 h.2.1, rfl⟩, rfl⟩
      | exact ⟨.inr ⟨fun h => hi1_1 h.1, rfl⟩, rfl⟩

theorem rBit {O : Outer} {H : Heap} (n : Int) (k : Nat) (hr : isR n) (hk : k < 8) :
    FnC Try.prog 50 #[.int .i64 n, .int .i64 (k : Nat)] O H (fun v H' => ((n.toNat.testBit k = true ∧ v = .bool true ∨ ¬ n.toNat.testBit k = true ∧ v = .bool false) ∧ H = H')) := by
  refine fn_enter (A := [.int .i64 n, .int .i64 (k : Nat)]) Try.func50 rfl rfl ?_
  have hX := Ext.refl H
  refine xc_seq ?_
  refine xc_region ?_
  refine xl_pure rfl rfl rfl (pv_assign (v := .bool _) rfl rfl) ?_
  refine xl_nil ?_
  refine xthen_normal ?_
  refine xc_seq ?_
  refine xc_region ?_
  refine xl_pure rfl rfl rfl (pv_move (v := .int _ _) rfl rfl) ?_
  refine xl_pure rfl rfl rfl (pv_move (v := .int _ _) rfl rfl) ?_
  refine xl_pure rfl rfl rfl (pv_shr (r := n / 2 ^ k) rfl rfl rfl (by omega) (shr_bit k hk)) ?_
  refine xl_pure rfl rfl rfl (pv_and (r := n / 2 ^ k % 2) rfl rfl rfl (and1i (div_nn hr k).1 (div_nn hr k).2)) ?_
  refine xl_dec rfl rfl rfl (pv_eql rfl rfl rfl) (fun h1_4 => ?_) (fun h1_4 => ?_)
  · skip
    refine xl_pure rfl rfl rfl (pv_assign (v := .bool _) rfl rfl) ?_
    refine xl_nil ?_
    refine xthen_normal ?_
    refine xc_ret ?_
    refine fin_ret (res1 (v := .bool _) rfl rfl) ?_
    first
      | exact ⟨.inl ⟨(tb_int hr k).2 h1_4, rfl⟩, rfl⟩
      | exact ⟨.inr ⟨fun h => h1_4 ((tb_int hr k).1 h), rfl⟩, rfl⟩
  · skip
    refine xl_pure rfl rfl rfl (pv_assign (v := .bool _) rfl rfl) ?_
    refine xl_nil ?_
    refine xthen_normal ?_
    refine xc_ret ?_
    refine fin_ret (res1 (v := .bool _) rfl rfl) ?_
    first
      | exact ⟨.inl ⟨(tb_int hr k).2 h1_4, rfl⟩, rfl⟩
      | exact ⟨.inr ⟨fun h => h1_4 ((tb_int hr k).1 h), rfl⟩, rfl⟩

theorem rHas {O : Outer} {H : Heap} (r n : Int) :
    FnC Try.prog 37 #[.int .i64 r, .int .i64 n] O H (fun v H' => ((hasN r n ∧ v = .bool true ∨ ¬ hasN r n ∧ v = .bool false) ∧ H = H')) := by
  refine fn_enter (A := [.int .i64 r, .int .i64 n]) Try.func37 rfl rfl ?_
  have hX := Ext.refl H
  refine xc_seq ?_
  refine xc_region ?_
  refine xl_pure rfl rfl rfl (pv_assign (v := .bool _) rfl rfl) ?_
  refine xl_nil ?_
  refine xthen_normal ?_
  refine xc_seq ?_
  refine xc_seq ?_
  refine xc_region ?_
  refine xl_pure rfl rfl rfl (pv_move (v := .int _ _) rfl rfl) ?_
  refine xl_heavy rfl rfl rfl (hv_call (g := 32) rfl rfl (rMay r) rfl) ?_
  rintro v1_1 H1_1 ⟨hv1_1, rfl⟩
  rcases hv1_1 with ⟨hi1_1, rfl⟩ | ⟨hi1_1, rfl⟩
  · skip
    refine xl_pure rfl rfl rfl (pv_not rfl rfl) ?_
    refine xl_pure rfl rfl rfl (pv_move (v := .bool _) rfl rfl) ?_
    refine xl_pure rfl rfl rfl (pv_move (v := .int _ _) rfl rfl) ?_
    refine xl_heavy rfl rfl rfl (hv_call (g := 32) rfl rfl (rMay n) rfl) ?_
    rintro v1_5 H1_5 ⟨hv1_5, rfl⟩
    rcases hv1_5 with ⟨hi1_5, rfl⟩ | ⟨hi1_5, rfl⟩
    · skip
      refine xl_pure rfl rfl rfl (pv_not rfl rfl) ?_
      refine xl_pure rfl rfl rfl (pv_pick_f (v := .bool _) rfl rfl rfl) ?_
      refine xl_nil ?_
      refine xthen_normal ?_
      refine xc_cond_f rfl ?_
      refine xc_skip ?_
      refine xthen_normal ?_
      refine xc_seq ?_
      refine xc_seq ?_
      refine xc_region ?_
      refine xl_pure rfl rfl rfl (pv_assign (v := .int _ _) rfl rfl) ?_
      refine xl_nil ?_
      refine xthen_normal ?_
      refine xc_block ?_
      refine xc_loop (τ := Nat) (fun t => [(0, .int .i64 r), (1, .int .i64 n), (5, .int .i64 (t : Nat))]) (fun t H' => (t ≤ 8) ∧ (∀ j, j < t → n.toNat.testBit j = true → (r.toNat.testBit j = true ∨ r.toNat.testBit 0 = true)) ∧ (H = H') ∧ (Ext H H')) (fun t H' => 8 - t) 0 ?_ ?_ ?_
      · exact ⟨rfl, rfl, rfl, trivial⟩
      · skip
        exact ⟨Nat.zero_le _, fun j hj => absurd hj (by omega), rfl, hX⟩
      · intro σ
        clear hX
        rintro k Hl4 ⟨hk, hno, heq, hX⟩
        replace hk : k ≤ 8 := hk
        replace hno : ∀ j, j < k → n.toNat.testBit j = true → (r.toNat.testBit j = true ∨ r.toNat.testBit 0 = true) := hno
        replace heq : H = Hl4 := heq
        replace hX : Ext H Hl4 := hX
        subst heq
        show XC _ _ _ (upds σ [(0, .int .i64 r), (1, .int .i64 n), (5, .int .i64 (k : Nat))]) _
        refine xc_seq ?_
        refine xc_seq ?_
        refine xc_region ?_
        refine xl_pure rfl rfl rfl (pv_move (v := .int _ _) rfl rfl) ?_
        refine xl_dec rfl rfl rfl (pv_lss rfl rfl rfl) (fun h4_1 => ?_) (fun h4_1 => ?_)
        · skip
          refine xl_nil ?_
          refine xthen_normal ?_
          refine xc_cond_t rfl ?_
          refine xc_skip ?_
          refine xthen_normal ?_
          refine xc_seq ?_
          refine xc_block ?_
          refine xc_seq ?_
          refine xc_region ?_
          refine xl_pure rfl rfl rfl (pv_move (v := .int _ _) rfl rfl) ?_
          refine xl_pure rfl rfl rfl (pv_move (v := .int _ _) rfl rfl) ?_
          refine xl_heavy rfl rfl rfl (hv_call (g := 50) rfl rfl (rBit n k hi1_5 (by omega)) rfl) ?_
          rintro v6_2 H6_2 ⟨hv6_2, rfl⟩
          rcases hv6_2 with ⟨hi6_2, rfl⟩ | ⟨hi6_2, rfl⟩
          · skip
            refine xl_pure rfl rfl rfl (pv_move (v := .bool _) rfl rfl) ?_
            refine xl_pure rfl rfl rfl (pv_move (v := .int _ _) rfl rfl) ?_
            refine xl_pure rfl rfl rfl (pv_move (v := .int _ _) rfl rfl) ?_
            refine xl_heavy rfl rfl rfl (hv_call (g := 50) rfl rfl (rBit r k hi1_1 (by omega)) rfl) ?_
            rintro v6_6 H6_6 ⟨hv6_6, rfl⟩
            rcases hv6_6 with ⟨hi6_6, rfl⟩ | ⟨hi6_6, rfl⟩
            · skip
              refine xl_pure rfl rfl rfl (pv_not rfl rfl) ?_
              refine xl_pure rfl rfl rfl (pv_pick_t (v := .bool _) rfl rfl rfl) ?_
              refine xl_pure rfl rfl rfl (pv_move (v := .bool _) rfl rfl) ?_
              refine xl_skip rfl rfl rfl ?_
              refine xl_skip rfl rfl rfl ?_
              refine xl_skip rfl rfl rfl ?_
              refine xl_pure rfl rfl rfl (pv_pick_f (v := .bool _) rfl rfl rfl) ?_
              refine xl_nil ?_
              refine xthen_normal ?_
              refine xc_cond_f rfl ?_
              refine xc_skip ?_
              refine xblock_normal ?_
              refine xthen_normal ?_
              refine xc_region ?_
              refine xl_pure rfl rfl rfl (pv_move (v := .int _ _) rfl rfl) ?_
              refine xl_pure rfl rfl rfl (pv_add rfl rfl rfl (fit_i64 (by omega))) ?_
              refine xl_pure rfl rfl rfl (pv_assign (v := .int _ _) rfl rfl) ?_
              refine xl_nil ?_
              refine xthen_normal ?_
              exact ⟨k + 1, ⟨rfl, rfl, rfl, trivial⟩, ⟨by (try simp only); omega, by first | exact all_next hno (fun _ => .inl hi6_6) | exact all_next hno (fun _ => .inr hi6_11) | exact all_next hno (fun h => absurd h hi6_2), rfl, hX⟩, by (try simp only); omega⟩
            · skip
              refine xl_pure rfl rfl rfl (pv_not rfl rfl) ?_
              refine xl_pure rfl rfl rfl (pv_pick_t (v := .bool _) rfl rfl rfl) ?_
              refine xl_pure rfl rfl rfl (pv_move (v := .bool _) rfl rfl) ?_
              refine xl_pure rfl rfl rfl (pv_move (v := .int _ _) rfl rfl) ?_
              refine xl_heavy rfl rfl rfl (hv_call (g := 50) rfl rfl (rBit r 0 hi1_1 (by decide)) rfl) ?_
              rintro v6_11 H6_11 ⟨hv6_11, rfl⟩
              rcases hv6_11 with ⟨hi6_11, rfl⟩ | ⟨hi6_11, rfl⟩
              · skip
                refine xl_pure rfl rfl rfl (pv_not rfl rfl) ?_
                refine xl_pure rfl rfl rfl (pv_pick_t (v := .bool _) rfl rfl rfl) ?_
                refine xl_nil ?_
                refine xthen_normal ?_
                refine xc_cond_f rfl ?_
                refine xc_skip ?_
                refine xblock_normal ?_
                refine xthen_normal ?_
                refine xc_region ?_
                refine xl_pure rfl rfl rfl (pv_move (v := .int _ _) rfl rfl) ?_
                refine xl_pure rfl rfl rfl (pv_add rfl rfl rfl (fit_i64 (by omega))) ?_
                refine xl_pure rfl rfl rfl (pv_assign (v := .int _ _) rfl rfl) ?_
                refine xl_nil ?_
                refine xthen_normal ?_
                exact ⟨k + 1, ⟨rfl, rfl, rfl, trivial⟩, ⟨by (try simp only); omega, by first | exact all_next hno (fun _ => .inl hi6_6) | exact all_next hno (fun _ => .inr hi6_11) | exact all_next hno (fun h => absurd h hi6_2), rfl, hX⟩, by (try simp only); omega⟩
              · skip
                refine xl_pure rfl rfl rfl (pv_not rfl rfl) ?_
                refine xl_pure rfl rfl rfl (pv_pick_t (v := .bool _) rfl rfl rfl) ?_
                refine xl_nil ?_
                refine xthen_normal ?_
                refine xc_cond_t rfl ?_
                refine xc_seq ?_
                refine xc_region ?_
                refine xl_pure rfl rfl rfl (pv_assign (v := .bool _) rfl rfl) ?_
                refine xl_nil ?_
                refine xthen_normal ?_
                refine xc_ret ?_
                refine xblock_ret ?_
                refine xthen_ret ?_
                refine xthen_ret ?_
                refine xblock_ret ?_
                refine xthen_ret ?_
                refine fin_ret (res1 (v := .bool _) rfl rfl) ?_
                exact ⟨.inr ⟨fun h => h.2.2.elim (fun h3 => hi6_11 ((tb_lead hi1_1).1 h3)) (fun h3 => hi6_6 (h3 k (by omega) hi6_2)), rfl⟩, rfl⟩
          · skip
            refine xl_pure rfl rfl rfl (pv_move (v := .bool _) rfl rfl) ?_
            refine xl_skip rfl rfl rfl ?_
            refine xl_skip rfl rfl rfl ?_
            refine xl_skip rfl rfl rfl ?_
            refine xl_skip rfl rfl rfl ?_
            refine xl_pure rfl rfl rfl (pv_pick_f (v := .bool _) rfl rfl rfl) ?_
            refine xl_pure rfl rfl rfl (pv_move (v := .bool _) rfl rfl) ?_
            refine xl_skip rfl rfl rfl ?_
            refine xl_skip rfl rfl rfl ?_
            refine xl_skip rfl rfl rfl ?_
            refine xl_pure rfl rfl rfl (pv_pick_f (v := .bool _) rfl rfl rfl) ?_
            refine xl_nil ?_
            refine xthen_normal ?_
            refine xc_cond_f rfl ?_
            refine xc_skip ?_
            refine xblock_normal ?_
            refine xthen_normal ?_
            refine xc_region ?_
            refine xl_pure rfl rfl rfl (pv_move (v := .int _ _) rfl rfl) ?_
            refine xl_pure rfl rfl rfl (pv_add rfl rfl rfl (fit_i64 (by omega))) ?_
            refine xl_pure rfl rfl rfl (pv_assign (v := .int _ _) rfl rfl) ?_
            refine xl_nil ?_
            refine xthen_normal ?_
            exact ⟨k + 1, ⟨rfl, rfl, rfl, trivial⟩, ⟨by (try simp only); omega, by first | exact all_next hno (fun _ => .inl hi6_6) | exact all_next hno (fun _ => .inr hi6_11) | exact all_next hno (fun h => absurd h hi6_2), rfl, hX⟩, by (try simp only); omega⟩
        · skip
          refine xl_nil ?_
          refine xthen_normal ?_
          refine xc_cond_f rfl ?_
          refine xc_exit ?_
          refine xthen_exit ?_
          refine xthen_exit ?_
          refine xblock_same ?_
          refine xthen_normal ?_
          refine xc_seq ?_
          refine xc_region ?_
          refine xl_pure rfl rfl rfl (pv_assign (v := .bool _) rfl rfl) ?_
          refine xl_nil ?_
          refine xthen_normal ?_
          refine xc_ret ?_
          refine fin_ret (res1 (v := .bool _) rfl rfl) ?_
          refine ⟨.inl ⟨⟨hi1_1, hi1_5, ?_⟩, rfl⟩, rfl⟩
          by_cases h0 : r % 2 = 1
          · exact .inl h0
          · exact .inr (fun j hj h => (hno j (by omega) h).resolve_right (fun h4 => h0 ((tb_lead hi1_1).2 h4)))
    · skip
      refine xl_pure rfl rfl rfl (pv_not rfl rfl) ?_
      refine xl_pure rfl rfl rfl (pv_pick_f (v := .bool _) rfl rfl rfl) ?_
      refine xl_nil ?_
      refine xthen_normal ?_
      refine xc_cond_t rfl ?_
      refine xc_seq ?_
      refine xc_region ?_
      refine xl_pure rfl rfl rfl (pv_assign (v := .bool _) rfl rfl) ?_
      refine xl_nil ?_
      refine xthen_normal ?_
      refine xc_ret ?_
      refine xthen_ret ?_
      refine fin_ret (res1 (v := .bool _) rfl rfl) ?_
      first
        | exact ⟨.inr ⟨fun h => hi1_5 h.2.1, rfl⟩, rfl⟩
        | exact ⟨.inr ⟨fun h => hi1_1 h.1, rfl⟩, rfl⟩
  · skip
    refine xl_pure rfl rfl rfl (pv_not rfl rfl) ?_
    refine xl_pure rfl rfl rfl (pv_move (v := .bool _) rfl rfl) ?_
    refine xl_skip rfl rfl rfl ?_
    refine xl_skip rfl rfl rfl ?_
    refine xl_skip rfl rfl rfl ?_
    refine xl_pure rfl rfl rfl (pv_pick_t (v := .bool _) rfl rfl rfl) ?_
    refine xl_nil ?_
    refine xthen_normal ?_
    refine xc_cond_t rfl ?_
    refine xc_seq ?_
    refine xc_region ?_
    refine xl_pure rfl rfl rfl (pv_assign (v := .bool _) rfl rfl) ?_
    refine xl_nil ?_
    refine xthen_normal ?_
    refine xc_ret ?_
    refine xthen_ret ?_
    refine fin_ret (res1 (v := .bool _) rfl rfl) ?_
    first
      | exact ⟨.inr ⟨fun h => hi1_5 h.2.1, rfl⟩, rfl⟩
      | exact ⟨.inr ⟨fun h => hi1_1 h.1, rfl⟩, rfl⟩

theorem gDiv {O : Outer} {H : Heap} (o d : Int) :
    FnC Try.prog 16 #[.int .i64 o, .int .i64 d] O H (fun v H' => v = .bool (divB o d) ∧ H = H') := by
  refine fn_enter (A := [.int .i64 o, .int .i64 d]) Try.func16 rfl rfl ?_
  have hX := Ext.refl H
  refine xc_seq ?_
  refine xc_region ?_
  refine xl_pure rfl rfl rfl (pv_assign (v := .bool _) rfl rfl) ?_
  refine xl_nil ?_
  refine xthen_normal ?_
  refine xc_seq ?_
  refine xc_seq ?_
  refine xc_region ?_
  refine xl_pure rfl rfl rfl (pv_move (v := .int _ _) rfl rfl) ?_
  refine xl_dec rfl rfl rfl (pv_lss rfl rfl rfl) (fun h1_1 => ?_) (fun h1_1 => ?_)
  · skip
    refine xl_nil ?_
    refine xthen_normal ?_
    refine xc_cond_t rfl ?_
    refine xc_seq ?_
    refine xc_region ?_
    refine xl_pure rfl rfl rfl (pv_move (v := .int _ _) rfl rfl) ?_
    refine xl_dec rfl rfl rfl (pv_eql rfl rfl rfl) (fun h2_1 => ?_) (fun h2_1 => ?_)
    · skip
      refine xl_pure rfl rfl rfl (pv_assign (v := .bool _) rfl rfl) ?_
      refine xl_nil ?_
      refine xthen_normal ?_
      refine xc_ret ?_
      refine xthen_ret ?_
      refine fin_ret (res1 (v := .bool _) rfl rfl) ?_
      unfold divB
      first
        | exact ⟨bv (by rw [if_pos (by omega)]; exact (decide_eq_true (by omega)).symm), rfl⟩
        | exact ⟨bv (by rw [if_pos (by omega)]; exact (decide_eq_false (by omega)).symm), rfl⟩
        | exact ⟨bv (by rw [if_neg (by omega)]; exact (decide_eq_true (by omega)).symm), rfl⟩
        | exact ⟨bv (by rw [if_neg (by omega)]; exact (decide_eq_false (by omega)).symm), rfl⟩
    · skip
      refine xl_pure rfl rfl rfl (pv_assign (v := .bool _) rfl rfl) ?_
      refine xl_nil ?_
      refine xthen_normal ?_
      refine xc_ret ?_
      refine xthen_ret ?_
      refine fin_ret (res1 (v := .bool _) rfl rfl) ?_
      unfold divB
      first
        | exact ⟨bv (by rw [if_pos (by omega)]; exact (decide_eq_true (by omega)).symm), rfl⟩
        | exact ⟨bv (by rw [if_pos (by omega)]; exact (decide_eq_false (by omega)).symm), rfl⟩
        | exact ⟨bv (by rw [if_neg (by omega)]; exact (decide_eq_true (by omega)).symm), rfl⟩
        | exact ⟨bv (by rw [if_neg (by omega)]; exact (decide_eq_false (by omega)).symm), rfl⟩
  · skip
    refine xl_nil ?_
    refine xthen_normal ?_
    refine xc_cond_f rfl ?_
    refine xc_skip ?_
    refine xthen_normal ?_
    refine xc_seq ?_
    refine xc_region ?_
    refine xl_pure rfl rfl rfl (pv_move (v := .int _ _) rfl rfl) ?_
    refine xl_dec rfl rfl rfl (pv_geq rfl rfl rfl) (fun h3_1 => ?_) (fun h3_1 => ?_)
    · skip
      refine xl_pure rfl rfl rfl (pv_move (v := .bool _) rfl rfl) ?_
      refine xl_pure rfl rfl rfl (pv_move (v := .int _ _) rfl rfl) ?_
      refine xl_dec rfl rfl rfl (pv_leq rfl rfl rfl) (fun h3_4 => ?_) (fun h3_4 => ?_)
      · skip
        refine xl_pure rfl rfl rfl (pv_pick_t (v := .bool _) rfl rfl rfl) ?_
        refine xl_pure rfl rfl rfl (pv_assign (v := .bool _) rfl rfl) ?_
        refine xl_nil ?_
        refine xthen_normal ?_
        refine xc_ret ?_
        refine fin_ret (res1 (v := .bool _) rfl rfl) ?_
        unfold divB
        first
          | exact ⟨bv (by rw [if_pos (by omega)]; exact (decide_eq_true (by omega)).symm), rfl⟩
          | exact ⟨bv (by rw [if_pos (by omega)]; exact (decide_eq_false (by omega)).symm), rfl⟩
          | exact ⟨bv (by rw [if_neg (by omega)]; exact (decide_eq_true (by omega)).symm), rfl⟩
          | exact ⟨bv (by rw [if_neg (by omega)]; exact (decide_eq_false (by omega)).symm), rfl⟩
      · skip
        refine xl_pure rfl rfl rfl (pv_pick_t (v := .bool _) rfl rfl rfl) ?_
        refine xl_pure rfl rfl rfl (pv_assign (v := .bool _) rfl rfl) ?_
        refine xl_nil ?_
        refine xthen_normal ?_
        refine xc_ret ?_
        refine fin_ret (res1 (v := .bool _) rfl rfl) ?_
        unfold divB
        first
          | exact ⟨bv (by rw [if_pos (by omega)]; exact (decide_eq_true (by omega)).symm), rfl⟩
          | exact ⟨bv (by rw [if_pos (by omega)]; exact (decide_eq_false (by omega)).symm), rfl⟩
          | exact ⟨bv (by rw [if_neg (by omega)]; exact (decide_eq_true (by omega)).symm), rfl⟩
          | exact ⟨bv (by rw [if_neg (by omega)]; exact (decide_eq_false (by omega)).symm), rfl⟩
    · skip
      refine xl_pure rfl rfl rfl (pv_move (v := .bool _) rfl rfl) ?_
      refine xl_skip rfl rfl rfl ?_
      refine xl_skip rfl rfl rfl ?_
      refine xl_pure rfl rfl rfl (pv_pick_f (v := .bool _) rfl rfl rfl) ?_
      refine xl_pure rfl rfl rfl (pv_assign (v := .bool _) rfl rfl) ?_
      refine xl_nil ?_
      refine xthen_normal ?_
      refine xc_ret ?_
      refine fin_ret (res1 (v := .bool _) rfl rfl) ?_
      unfold divB
      first
        | exact ⟨bv (by rw [if_pos (by omega)]; exact (decide_eq_true (by omega)).symm), rfl⟩
        | exact ⟨bv (by rw [if_pos (by omega)]; exact (decide_eq_false (by omega)).symm), rfl⟩
        | exact ⟨bv (by rw [if_neg (by omega)]; exact (decide_eq_true (by omega)).symm), rfl⟩
        | exact ⟨bv (by rw [if_neg (by omega)]; exact (decide_eq_false (by omega)).symm), rfl⟩

theorem rDiv {O : Outer} {H : Heap} (o d : Int) :
    FnC Try.prog 17 #[.int .i64 o, .int .i64 d] O H (fun v H' => v = .bool (divB o d) ∧ H = H') := by
  refine fn_enter (A := [.int .i64 o, .int .i64 d]) Try.func17 rfl rfl ?_
  have hX := Ext.refl H
  refine xc_seq ?_
  refine xc_region ?_
  refine xl_pure rfl rfl rfl (pv_assign (v := .bool _) rfl rfl) ?_
  refine xl_nil ?_
  refine xthen_normal ?_
  refine xc_seq ?_
  refine xc_seq ?_
  refine xc_region ?_
  refine xl_pure rfl rfl rfl (pv_move (v := .int _ _) rfl rfl) ?_
  refine xl_dec rfl rfl rfl (pv_lss rfl rfl rfl) (fun h1_1 => ?_) (fun h1_1 => ?_)
  · skip
    refine xl_nil ?_
    refine xthen_normal ?_
    refine xc_cond_t rfl ?_
    refine xc_seq ?_
    refine xc_region ?_
    refine xl_pure rfl rfl rfl (pv_move (v := .int _ _) rfl rfl) ?_
    refine xl_dec rfl rfl rfl (pv_eql rfl rfl rfl) (fun h2_1 => ?_) (fun h2_1 => ?_)
    · skip
      refine xl_pure rfl rfl rfl (pv_assign (v := .bool _) rfl rfl) ?_
      refine xl_nil ?_
      refine xthen_normal ?_
      refine xc_ret ?_
      refine xthen_ret ?_
      refine fin_ret (res1 (v := .bool _) rfl rfl) ?_
      unfold divB
      first
        | exact ⟨bv (by rw [if_pos (by omega)]; exact (decide_eq_true (by omega)).symm), rfl⟩
        | exact ⟨bv (by rw [if_pos (by omega)]; exact (decide_eq_false (by omega)).symm), rfl⟩
        | exact ⟨bv (by rw [if_neg (by omega)]; exact (decide_eq_true (by omega)).symm), rfl⟩
        | exact ⟨bv (by rw [if_neg (by omega)]; exact (decide_eq_false (by omega)).symm), rfl⟩
    · skip
      refine xl_pure rfl rfl rfl (pv_assign (v := .bool _) rfl rfl) ?_
      refine xl_nil ?_
      refine xthen_normal ?_
      refine xc_ret ?_
      refine xthen_ret ?_
      refine fin_ret (res1 (v := .bool _) rfl rfl) ?_
      unfold divB
      first
        | exact ⟨bv (by rw [if_pos (by omega)]; exact (decide_eq_true (by omega)).symm), rfl⟩
        | exact ⟨bv (by rw [if_pos (by omega)]; exact (decide_eq_false (by omega)).symm), rfl⟩
        | exact ⟨bv (by rw [if_neg (by omega)]; exact (decide_eq_true (by omega)).symm), rfl⟩
        | exact ⟨bv (by rw [if_neg (by omega)]; exact (decide_eq_false (by omega)).symm), rfl⟩
  · skip
    refine xl_nil ?_
    refine xthen_normal ?_
    refine xc_cond_f rfl ?_
    refine xc_skip ?_
    refine xthen_normal ?_
    refine xc_seq ?_
    refine xc_region ?_
    refine xl_pure rfl rfl rfl (pv_move (v := .int _ _) rfl rfl) ?_
    refine xl_dec rfl rfl rfl (pv_geq rfl rfl rfl) (fun h3_1 => ?_) (fun h3_1 => ?_)
    · skip
      refine xl_pure rfl rfl rfl (pv_move (v := .bool _) rfl rfl) ?_
      refine xl_pure rfl rfl rfl (pv_move (v := .int _ _) rfl rfl) ?_
      refine xl_dec rfl rfl rfl (pv_leq rfl rfl rfl) (fun h3_4 => ?_) (fun h3_4 => ?_)
      · skip
        refine xl_pure rfl rfl rfl (pv_pick_t (v := .bool _) rfl rfl rfl) ?_
        refine xl_pure rfl rfl rfl (pv_assign (v := .bool _) rfl rfl) ?_
        refine xl_nil ?_
        refine xthen_normal ?_
        refine xc_ret ?_
        refine fin_ret (res1 (v := .bool _) rfl rfl) ?_
        unfold divB
        first
          | exact ⟨bv (by rw [if_pos (by omega)]; exact (decide_eq_true (by omega)).symm), rfl⟩
          | exact ⟨bv (by rw [if_pos (by omega)]; exact (decide_eq_false (by omega)).symm), rfl⟩
          | exact ⟨bv (by rw [if_neg (by omega)]; exact (decide_eq_true (by omega)).symm), rfl⟩
          | exact ⟨bv (by rw [if_neg (by omega)]; exact (decide_eq_false (by omega)).symm), rfl⟩
      · skip
        refine xl_pure rfl rfl rfl (pv_pick_t (v := .bool _) rfl rfl rfl) ?_
        refine xl_pure rfl rfl rfl (pv_assign (v := .bool _) rfl rfl) ?_
        refine xl_nil ?_
        refine xthen_normal ?_
        refine xc_ret ?_
        refine fin_ret (res1 (v := .bool _) rfl rfl) ?_
        unfold divB
        first
          | exact ⟨bv (by rw [if_pos (by omega)]; exact (decide_eq_true (by omega)).symm), rfl⟩
          | exact ⟨bv (by rw [if_pos (by omega)]; exact (decide_eq_false (by omega)).symm), rfl⟩
          | exact ⟨bv (by rw [if_neg (by omega)]; exact (decide_eq_true (by omega)).symm), rfl⟩
          | exact ⟨bv (by rw [if_neg (by omega)]; exact (decide_eq_false (by omega)).symm), rfl⟩
    · skip
      refine xl_pure rfl rfl rfl (pv_move (v := .bool _) rfl rfl) ?_
      refine xl_skip rfl rfl rfl ?_
      refine xl_skip rfl rfl rfl ?_
      refine xl_pure rfl rfl rfl (pv_pick_f (v := .bool _) rfl rfl rfl) ?_
      refine xl_pure rfl rfl rfl (pv_assign (v := .bool _) rfl rfl) ?_
      refine xl_nil ?_
      refine xthen_normal ?_
      refine xc_ret ?_
      refine fin_ret (res1 (v := .bool _) rfl rfl) ?_
      unfold divB
      first
        | exact ⟨bv (by rw [if_pos (by omega)]; exact (decide_eq_true (by omega)).symm), rfl⟩
        | exact ⟨bv (by rw [if_pos (by omega)]; exact (decide_eq_false (by omega)).symm), rfl⟩
        | exact ⟨bv (by rw [if_neg (by omega)]; exact (decide_eq_true (by omega)).symm), rfl⟩
        | exact ⟨bv (by rw [if_neg (by omega)]; exact (decide_eq_false (by omega)).symm), rfl⟩

theorem gTake {O : Outer} {H : Heap} (d : Int) :
    FnC Try.prog 24 #[.int .i64 d] O H (fun v H' => v = .tuple #[.int .i64 (tkN d), .int .i64 (tkE d)] ∧ H = H') := by
  refine fn_enter (A := [.int .i64 d]) Try.func24 rfl rfl ?_
  have hX := Ext.refl H
  refine xc_seq ?_
  refine xc_region ?_
  refine xl_pure rfl rfl rfl (pv_assign (v := .int _ _) rfl rfl) ?_
  refine xl_pure rfl rfl rfl (pv_assign (v := .int _ _) rfl rfl) ?_
  refine xl_nil ?_
  refine xthen_normal ?_
  refine xc_seq ?_
  refine xc_seq ?_
  refine xc_region ?_
  refine xl_pure rfl rfl rfl (pv_move (v := .int _ _) rfl rfl) ?_
  refine xl_dec rfl rfl rfl (pv_lss rfl rfl rfl) (fun h1_1 => ?_) (fun h1_1 => ?_)
  · skip
    refine xl_pure rfl rfl rfl (pv_move (v := .bool _) rfl rfl) ?_
    refine xl_skip rfl rfl rfl ?_
    refine xl_skip rfl rfl rfl ?_
    refine xl_pure rfl rfl rfl (pv_pick_t (v := .bool _) rfl rfl rfl) ?_
    refine xl_nil ?_
    refine xthen_normal ?_
    refine xc_cond_t rfl ?_
    refine xc_seq ?_
    refine xc_region ?_
    refine xl_pure rfl rfl rfl (pv_assign (v := .int _ _) rfl rfl) ?_
    refine xl_pure rfl rfl rfl (pv_assign (v := .int _ _) rfl rfl) ?_
    refine xl_nil ?_
    refine xthen_normal ?_
    refine xc_ret ?_
    refine xthen_ret ?_
    refine fin_ret (res2 (v := .int _ _) (x := .int _ _) rfl rfl rfl) ?_
    exact ⟨tup2i (by unfold tkN; repeat' (first | omega | split)) (by unfold tkE; split <;> omega), rfl⟩
  · skip
    refine xl_pure rfl rfl rfl (pv_move (v := .bool _) rfl rfl) ?_
    refine xl_pure rfl rfl rfl (pv_move (v := .int _ _) rfl rfl) ?_
    refine xl_dec rfl rfl rfl (pv_gtr rfl rfl rfl) (fun h1_4 => ?_) (fun h1_4 => ?_)
    · skip
      refine xl_pure rfl rfl rfl (pv_pick_f (v := .bool _) rfl rfl rfl) ?_
      refine xl_nil ?_
      refine xthen_normal ?_
      refine xc_cond_t rfl ?_
      refine xc_seq ?_
      refine xc_region ?_
      refine xl_pure rfl rfl rfl (pv_assign (v := .int _ _) rfl rfl) ?_
      refine xl_pure rfl rfl rfl (pv_assign (v := .int _ _) rfl rfl) ?_
      refine xl_nil ?_
      refine xthen_normal ?_
      refine xc_ret ?_
      refine xthen_ret ?_
      refine fin_ret (res2 (v := .int _ _) (x := .int _ _) rfl rfl rfl) ?_
      exact ⟨tup2i (by unfold tkN; repeat' (first | omega | split)) (by unfold tkE; split <;> omega), rfl⟩
    · skip
      refine xl_pure rfl rfl rfl (pv_pick_f (v := .bool _) rfl rfl rfl) ?_
      refine xl_nil ?_
      refine xthen_normal ?_
      refine xc_cond_f rfl ?_
      refine xc_skip ?_
      refine xthen_normal ?_
      refine xc_seq ?_
      refine xc_region ?_
      refine xl_pure rfl rfl rfl (pv_move (v := .int _ _) rfl rfl) ?_
      refine xl_pure rfl rfl rfl (pv_add rfl rfl rfl (fit_i64 (by omega))) ?_
      refine xl_pure rfl rfl rfl (pv_sub rfl rfl rfl (fit_i64 (by omega))) ?_
      refine xl_pure rfl rfl rfl (pv_shl (r := tkN d) rfl rfl rfl (by omega) (shl_tk (d := d) (by omega) (by omega))) ?_
      refine xl_pure rfl rfl rfl (pv_assign (v := .int _ _) rfl rfl) ?_
      refine xl_pure rfl rfl rfl (pv_assign (v := .int _ _) rfl rfl) ?_
      refine xl_nil ?_
      refine xthen_normal ?_
      refine xc_ret ?_
      refine fin_ret (res2 (v := .int _ _) (x := .int _ _) rfl rfl rfl) ?_
      exact ⟨tup2i rfl (by unfold tkE; split <;> omega), rfl⟩

theorem rTake {O : Outer} {H : Heap} (d : Int) :
    FnC Try.prog 25 #[.int .i64 d] O H (fun v H' => v = .tuple #[.int .i64 (tkN d), .int .i64 (tkE d)] ∧ H = H') := by
  refine fn_enter (A := [.int .i64 d]) Try.func25 rfl rfl ?_
  have hX := Ext.refl H
  refine xc_seq ?_
  refine xc_region ?_
  refine xl_pure rfl rfl rfl (pv_assign (v := .int _ _) rfl rfl) ?_
  refine xl_pure rfl rfl rfl (pv_assign (v := .int _ _) rfl rfl) ?_
  refine xl_nil ?_
  refine xthen_normal ?_
  refine xc_seq ?_
  refine xc_seq ?_
  refine xc_region ?_
  refine xl_pure rfl rfl rfl (pv_move (v := .int _ _) rfl rfl) ?_
  refine xl_dec rfl rfl rfl (pv_lss rfl rfl rfl) (fun h1_1 => ?_) (fun h1_1 => ?_)
  · skip
    refine xl_pure rfl rfl rfl (pv_move (v := .bool _) rfl rfl) ?_
    refine xl_skip rfl rfl rfl ?_
    refine xl_skip rfl rfl rfl ?_
    refine xl_pure rfl rfl rfl (pv_pick_t (v := .bool _) rfl rfl rfl) ?_
    refine xl_nil ?_
    refine xthen_normal ?_
    refine xc_cond_t rfl ?_
    refine xc_seq ?_
    refine xc_region ?_
    refine xl_pure rfl rfl rfl (pv_assign (v := .int _ _) rfl rfl) ?_
    refine xl_pure rfl rfl rfl (pv_assign (v := .int _ _) rfl rfl) ?_
    refine xl_nil ?_
    refine xthen_normal ?_
    refine xc_ret ?_
    refine xthen_ret ?_
    refine fin_ret (res2 (v := .int _ _) (x := .int _ _) rfl rfl rfl) ?_
    exact ⟨tup2i (by unfold tkN; repeat' (first | omega | split)) (by unfold tkE; split <;> omega), rfl⟩
  · skip
    refine xl_pure rfl rfl rfl (pv_move (v := .bool _) rfl rfl) ?_
    refine xl_pure rfl rfl rfl (pv_move (v := .int _ _) rfl rfl) ?_
    refine xl_dec rfl rfl rfl (pv_gtr rfl rfl rfl) (fun h1_4 => ?_) (fun h1_4 => ?_)
    · skip
      refine xl_pure rfl rfl rfl (pv_pick_f (v := .bool _) rfl rfl rfl) ?_
      refine xl_nil ?_
      refine xthen_normal ?_
      refine xc_cond_t rfl ?_
      refine xc_seq ?_
      refine xc_region ?_
      refine xl_pure rfl rfl rfl (pv_assign (v := .int _ _) rfl rfl) ?_
      refine xl_pure rfl rfl rfl (pv_assign (v := .int _ _) rfl rfl) ?_
      refine xl_nil ?_
      refine xthen_normal ?_
      refine xc_ret ?_
      refine xthen_ret ?_
      refine fin_ret (res2 (v := .int _ _) (x := .int _ _) rfl rfl rfl) ?_
      exact ⟨tup2i (by unfold tkN; repeat' (first | omega | split)) (by unfold tkE; split <;> omega), rfl⟩
    · skip
      refine xl_pure rfl rfl rfl (pv_pick_f (v := .bool _) rfl rfl rfl) ?_
      refine xl_nil ?_
      refine xthen_normal ?_
      refine xc_cond_f rfl ?_
      refine xc_skip ?_
      refine xthen_normal ?_
      refine xc_seq ?_
      refine xc_region ?_
      refine xl_pure rfl rfl rfl (pv_move (v := .int _ _) rfl rfl) ?_
      refine xl_pure rfl rfl rfl (pv_add rfl rfl rfl (fit_i64 (by omega))) ?_
      refine xl_pure rfl rfl rfl (pv_shl (r := tkN d) rfl rfl rfl (by omega) (shl_tk (d := d) (by omega) (by omega))) ?_
      refine xl_pure rfl rfl rfl (pv_assign (v := .int _ _) rfl rfl) ?_
      refine xl_pure rfl rfl rfl (pv_assign (v := .int _ _) rfl rfl) ?_
      refine xl_nil ?_
      refine xthen_normal ?_
      refine xc_ret ?_
      refine fin_ret (res2 (v := .int _ _) (x := .int _ _) rfl rfl rfl) ?_
      exact ⟨tup2i rfl (by unfold tkE; split <;> omega), rfl⟩

theorem gNeeds {O : Outer} {H : Heap} (k d : Int) :
    FnC Try.prog 6 #[.int .i64 k, .int .i64 d] O H (fun v H' => v = .tuple #[.int .i64 (neeN k d), .int .i64 (neeE k d)] ∧ H = H') := by
  refine fn_enter (A := [.int .i64 k, .int .i64 d]) Try.func6 rfl rfl ?_
  have hX := Ext.refl H
  refine xc_seq ?_
  refine xc_region ?_
  refine xl_pure rfl rfl rfl (pv_assign (v := .int _ _) rfl rfl) ?_
  refine xl_pure rfl rfl rfl (pv_assign (v := .int _ _) rfl rfl) ?_
  refine xl_nil ?_
  refine xthen_normal ?_
  refine xc_seq ?_
  refine xc_region ?_
  refine xl_pure rfl rfl rfl (pv_move (v := .int _ _) rfl rfl) ?_
  refine xl_heavy rfl rfl rfl (hv_call (g := 24) rfl rfl (gTake d) rfl) ?_
  rintro v1_1 H1_1 ⟨rfl, rfl⟩
  refine xl_pure rfl rfl rfl (pv_move (v := .tuple _) rfl rfl) ?_
  refine xl_pure rfl rfl rfl (pv_extract (v := .int _ _) rfl rfl rfl) ?_
  refine xl_pure rfl rfl rfl (pv_extract (v := .int _ _) rfl rfl rfl) ?_
  refine xl_pure rfl rfl rfl (pv_assign (v := .int _ _) rfl rfl) ?_
  refine xl_pure rfl rfl rfl (pv_assign (v := .int _ _) rfl rfl) ?_
  refine xl_nil ?_
  refine xthen_normal ?_
  refine xc_seq ?_
  refine xc_seq ?_
  refine xc_region ?_
  refine xl_pure rfl rfl rfl (pv_move (v := .int _ _) rfl rfl) ?_
  refine xl_ndec rfl rfl rfl (pv_neq rfl rfl rfl) (fun h2_1 => ?_) (fun h2_1 => ?_)
  · skip
    refine xl_pure rfl rfl rfl (pv_move (v := .bool _) rfl rfl) ?_
    refine xl_skip rfl rfl rfl ?_
    refine xl_skip rfl rfl rfl ?_
    refine xl_pure rfl rfl rfl (pv_pick_f (v := .bool _) rfl rfl rfl) ?_
    refine xl_nil ?_
    refine xthen_normal ?_
    refine xc_cond_f rfl ?_
    refine xc_skip ?_
    refine xthen_normal ?_
    refine xc_seq ?_
    refine xc_seq ?_
    refine xc_region ?_
    refine xl_pure rfl rfl rfl (pv_move (v := .int _ _) rfl rfl) ?_
    refine xl_nil ?_
    refine xthen_normal ?_
    refine xc_block ?_
    refine xc_seq ?_
    refine xc_seq ?_
    refine xc_region ?_
    refine xl_dec rfl rfl rfl (pv_eql rfl rfl rfl) (fun h5_0 => ?_) (fun h5_0 => ?_)
    · skip
      refine xl_pure rfl rfl rfl (pv_assign (v := .bool _) rfl rfl) ?_
      refine xl_nil ?_
      refine xthen_normal ?_
      refine xc_cond_t rfl ?_
      refine xc_skip ?_
      refine xthen_normal ?_
      refine xc_cond_t rfl ?_
      refine xc_seq ?_
      refine xc_region ?_
      refine xl_pure rfl rfl rfl (pv_assign (v := .int _ _) rfl rfl) ?_
      refine xl_pure rfl rfl rfl (pv_assign (v := .int _ _) rfl rfl) ?_
      refine xl_nil ?_
      refine xthen_normal ?_
      refine xc_ret ?_
      refine xblock_ret ?_
      refine xthen_ret ?_
      refine fin_ret (res2 (v := .int _ _) (x := .int _ _) rfl rfl rfl) ?_
      have hk := tkE_iff (d := d)
      exact ⟨tup2i (by unfold neeN neeE; repeat' (first | omega | split)) (by unfold neeE; repeat' (first | omega | split)), rfl⟩
    · skip
      refine xl_pure rfl rfl rfl (pv_assign (v := .bool _) rfl rfl) ?_
      refine xl_nil ?_
      refine xthen_normal ?_
      refine xc_cond_f rfl ?_
      refine xc_region ?_
      refine xl_dec rfl rfl rfl (pv_eql rfl rfl rfl) (fun h6_0 => ?_) (fun h6_0 => ?_)
      · skip
        refine xl_pure rfl rfl rfl (pv_assign (v := .bool _) rfl rfl) ?_
        refine xl_nil ?_
        refine xthen_normal ?_
        refine xc_cond_t rfl ?_
        refine xc_seq ?_
        refine xc_region ?_
        refine xl_pure rfl rfl rfl (pv_assign (v := .int _ _) rfl rfl) ?_
        refine xl_pure rfl rfl rfl (pv_assign (v := .int _ _) rfl rfl) ?_
        refine xl_nil ?_
        refine xthen_normal ?_
        refine xc_ret ?_
        refine xblock_ret ?_
        refine xthen_ret ?_
        refine fin_ret (res2 (v := .int _ _) (x := .int _ _) rfl rfl rfl) ?_
        have hk := tkE_iff (d := d)
        exact ⟨tup2i (by unfold neeN neeE; repeat' (first | omega | split)) (by unfold neeE; repeat' (first | omega | split)), rfl⟩
      · skip
        refine xl_pure rfl rfl rfl (pv_assign (v := .bool _) rfl rfl) ?_
        refine xl_nil ?_
        refine xthen_normal ?_
        refine xc_cond_f rfl ?_
        refine xc_seq ?_
        refine xc_region ?_
        refine xl_dec rfl rfl rfl (pv_eql rfl rfl rfl) (fun h8_0 => ?_) (fun h8_0 => ?_)
        · skip
          refine xl_pure rfl rfl rfl (pv_assign (v := .bool _) rfl rfl) ?_
          refine xl_nil ?_
          refine xthen_normal ?_
          refine xc_cond_t rfl ?_
          refine xc_seq ?_
          refine xc_region ?_
          refine xl_pure rfl rfl rfl (pv_assign (v := .int _ _) rfl rfl) ?_
          refine xl_pure rfl rfl rfl (pv_assign (v := .int _ _) rfl rfl) ?_
          refine xl_nil ?_
          refine xthen_normal ?_
          refine xc_ret ?_
          refine xblock_ret ?_
          refine xthen_ret ?_
          refine fin_ret (res2 (v := .int _ _) (x := .int _ _) rfl rfl rfl) ?_
          have hk := tkE_iff (d := d)
          exact ⟨tup2i (by unfold neeN neeE; repeat' (first | omega | split)) (by unfold neeE; repeat' (first | omega | split)), rfl⟩
        · skip
          refine xl_pure rfl rfl rfl (pv_assign (v := .bool _) rfl rfl) ?_
          refine xl_nil ?_
          refine xthen_normal ?_
          refine xc_cond_f rfl ?_
          refine xc_seq ?_
          refine xc_region ?_
          refine xl_dec rfl rfl rfl (pv_eql rfl rfl rfl) (fun h10_0 => ?_) (fun h10_0 => ?_)
          · skip
            refine xl_pure rfl rfl rfl (pv_assign (v := .bool _) rfl rfl) ?_
            refine xl_nil ?_
            refine xthen_normal ?_
            refine xc_cond_t rfl ?_
            refine xc_seq ?_
            refine xc_region ?_
            refine xl_pure rfl rfl rfl (pv_move (v := .int _ _) rfl rfl) ?_
            refine xl_pure rfl rfl rfl (pv_assign (v := .int _ _) rfl rfl) ?_
            refine xl_pure rfl rfl rfl (pv_assign (v := .int _ _) rfl rfl) ?_
            refine xl_nil ?_
            refine xthen_normal ?_
            refine xc_ret ?_
            refine xblock_ret ?_
            refine xthen_ret ?_
            refine fin_ret (res2 (v := .int _ _) (x := .int _ _) rfl rfl rfl) ?_
            have hk := tkE_iff (d := d)
            exact ⟨tup2i (by unfold neeN neeE; repeat' (first | omega | split)) (by unfold neeE; repeat' (first | omega | split)), rfl⟩
          · skip
            refine xl_pure rfl rfl rfl (pv_assign (v := .bool _) rfl rfl) ?_
            refine xl_nil ?_
            refine xthen_normal ?_
            refine xc_cond_f rfl ?_
            refine xc_seq ?_
            refine xc_region ?_
            refine xl_dec rfl rfl rfl (pv_eql rfl rfl rfl) (fun h12_0 => ?_) (fun h12_0 => ?_)
            · skip
              refine xl_pure rfl rfl rfl (pv_assign (v := .bool _) rfl rfl) ?_
              refine xl_nil ?_
              refine xthen_normal ?_
              refine xc_cond_t rfl ?_
              refine xc_seq ?_
              refine xc_region ?_
              refine xl_pure rfl rfl rfl (pv_move (v := .int _ _) rfl rfl) ?_
              refine xl_pure rfl rfl rfl (pv_or (r := 4 + tkN d) rfl rfl rfl or4) ?_
              refine xl_pure rfl rfl rfl (pv_assign (v := .int _ _) rfl rfl) ?_
              refine xl_pure rfl rfl rfl (pv_assign (v := .int _ _) rfl rfl) ?_
              refine xl_nil ?_
              refine xthen_normal ?_
              refine xc_ret ?_
              refine xblock_ret ?_
              refine xthen_ret ?_
              refine fin_ret (res2 (v := .int _ _) (x := .int _ _) rfl rfl rfl) ?_
              have hk := tkE_iff (d := d)
              exact ⟨tup2i (by unfold neeN neeE; repeat' (first | omega | split)) (by unfold neeE; repeat' (first | omega | split)), rfl⟩
            · skip
              refine xl_pure rfl rfl rfl (pv_assign (v := .bool _) rfl rfl) ?_
              refine xl_nil ?_
              refine xthen_normal ?_
              refine xc_cond_f rfl ?_
              refine xc_seq ?_
              refine xc_seq ?_
              refine xc_region ?_
              refine xl_dec rfl rfl rfl (pv_eql rfl rfl rfl) (fun h14_0 => ?_) (fun h14_0 => ?_)
              · skip
                refine xl_pure rfl rfl rfl (pv_assign (v := .bool _) rfl rfl) ?_
                refine xl_nil ?_
                refine xthen_normal ?_
                refine xc_cond_t rfl ?_
                refine xc_skip ?_
                refine xthen_normal ?_
                refine xc_cond_t rfl ?_
                refine xc_seq ?_
                refine xc_region ?_
                refine xl_pure rfl rfl rfl (pv_assign (v := .int _ _) rfl rfl) ?_
                refine xl_pure rfl rfl rfl (pv_assign (v := .int _ _) rfl rfl) ?_
                refine xl_nil ?_
                refine xthen_normal ?_
                refine xc_ret ?_
                refine xblock_ret ?_
                refine xthen_ret ?_
                refine fin_ret (res2 (v := .int _ _) (x := .int _ _) rfl rfl rfl) ?_
                have hk := tkE_iff (d := d)
                exact ⟨tup2i (by unfold neeN neeE; repeat' (first | omega | split)) (by unfold neeE; repeat' (first | omega | split)), rfl⟩
              · skip
                refine xl_pure rfl rfl rfl (pv_assign (v := .bool _) rfl rfl) ?_
                refine xl_nil ?_
                refine xthen_normal ?_
                refine xc_cond_f rfl ?_
                refine xc_seq ?_
                refine xc_region ?_
                refine xl_dec rfl rfl rfl (pv_eql rfl rfl rfl) (fun h15_0 => ?_) (fun h15_0 => ?_)
                · skip
                  refine xl_pure rfl rfl rfl (pv_assign (v := .bool _) rfl rfl) ?_
                  refine xl_nil ?_
                  refine xthen_normal ?_
                  refine xc_cond_t rfl ?_
                  refine xc_skip ?_
                  refine xthen_normal ?_
                  refine xc_cond_t rfl ?_
                  refine xc_seq ?_
                  refine xc_region ?_
                  refine xl_pure rfl rfl rfl (pv_assign (v := .int _ _) rfl rfl) ?_
                  refine xl_pure rfl rfl rfl (pv_assign (v := .int _ _) rfl rfl) ?_
                  refine xl_nil ?_
                  refine xthen_normal ?_
                  refine xc_ret ?_
                  refine xblock_ret ?_
                  refine xthen_ret ?_
                  refine fin_ret (res2 (v := .int _ _) (x := .int _ _) rfl rfl rfl) ?_
                  have hk := tkE_iff (d := d)
                  exact ⟨tup2i (by unfold neeN neeE; repeat' (first | omega | split)) (by unfold neeE; repeat' (first | omega | split)), rfl⟩
                · skip
                  refine xl_pure rfl rfl rfl (pv_assign (v := .bool _) rfl rfl) ?_
                  refine xl_nil ?_
                  refine xthen_normal ?_
                  refine xc_cond_f rfl ?_
                  refine xc_seq ?_
                  refine xc_region ?_
                  refine xl_dec rfl rfl rfl (pv_eql rfl rfl rfl) (fun h16_0 => ?_) (fun h16_0 => ?_)
                  · skip
                    refine xl_pure rfl rfl rfl (pv_assign (v := .bool _) rfl rfl) ?_
                    refine xl_nil ?_
                    refine xthen_normal ?_
                    refine xc_cond_t rfl ?_
                    refine xc_skip ?_
                    refine xthen_normal ?_
                    refine xc_cond_t rfl ?_
                    refine xc_seq ?_
                    refine xc_region ?_
                    refine xl_pure rfl rfl rfl (pv_assign (v := .int _ _) rfl rfl) ?_
                    refine xl_pure rfl rfl rfl (pv_assign (v := .int _ _) rfl rfl) ?_
                    refine xl_nil ?_
                    refine xthen_normal ?_
                    refine xc_ret ?_
                    refine xblock_ret ?_
                    refine xthen_ret ?_
                    refine fin_ret (res2 (v := .int _ _) (x := .int _ _) rfl rfl rfl) ?_
                    have hk := tkE_iff (d := d)
                    exact ⟨tup2i (by unfold neeN neeE; repeat' (first | omega | split)) (by unfold neeE; repeat' (first | omega | split)), rfl⟩
                  · skip
                    refine xl_pure rfl rfl rfl (pv_assign (v := .bool _) rfl rfl) ?_
                    refine xl_nil ?_
                    refine xthen_normal ?_
                    refine xc_cond_f rfl ?_
                    refine xc_region ?_
                    refine xl_dec rfl rfl rfl (pv_eql rfl rfl rfl) (fun h17_0 => ?_) (fun h17_0 => ?_)
                    · skip
                      refine xl_pure rfl rfl rfl (pv_assign (v := .bool _) rfl rfl) ?_
                      refine xl_nil ?_
                      refine xthen_normal ?_
                      refine xc_cond_t rfl ?_
                      refine xc_seq ?_
                      refine xc_region ?_
                      refine xl_pure rfl rfl rfl (pv_assign (v := .int _ _) rfl rfl) ?_
                      refine xl_pure rfl rfl rfl (pv_assign (v := .int _ _) rfl rfl) ?_
                      refine xl_nil ?_
                      refine xthen_normal ?_
                      refine xc_ret ?_
                      refine xblock_ret ?_
                      refine xthen_ret ?_
                      refine fin_ret (res2 (v := .int _ _) (x := .int _ _) rfl rfl rfl) ?_
                      have hk := tkE_iff (d := d)
                      exact ⟨tup2i (by unfold neeN neeE; repeat' (first | omega | split)) (by unfold neeE; repeat' (first | omega | split)), rfl⟩
                    · skip
                      refine xl_pure rfl rfl rfl (pv_assign (v := .bool _) rfl rfl) ?_
                      refine xl_nil ?_
                      refine xthen_normal ?_
                      refine xc_cond_f rfl ?_
                      refine xc_seq ?_
                      refine xc_seq ?_
                      refine xc_region ?_
                      refine xl_dec rfl rfl rfl (pv_eql rfl rfl rfl) (fun h19_0 => ?_) (fun h19_0 => ?_)
                      · skip
                        refine xl_pure rfl rfl rfl (pv_assign (v := .bool _) rfl rfl) ?_
                        refine xl_nil ?_
                        refine xthen_normal ?_
                        refine xc_cond_t rfl ?_
                        refine xc_skip ?_
                        refine xthen_normal ?_
                        refine xc_cond_t rfl ?_
                        refine xc_seq ?_
                        refine xc_region ?_
                        refine xl_pure rfl rfl rfl (pv_move (v := .int _ _) rfl rfl) ?_
                        refine xl_pure rfl rfl rfl (pv_or (r := 10 + tkN d) rfl rfl rfl or10) ?_
                        refine xl_pure rfl rfl rfl (pv_assign (v := .int _ _) rfl rfl) ?_
                        refine xl_pure rfl rfl rfl (pv_assign (v := .int _ _) rfl rfl) ?_
                        refine xl_nil ?_
                        refine xthen_normal ?_
                        refine xc_ret ?_
                        refine xblock_ret ?_
                        refine xthen_ret ?_
                        refine fin_ret (res2 (v := .int _ _) (x := .int _ _) rfl rfl rfl) ?_
                        have hk := tkE_iff (d := d)
                        exact ⟨tup2i (by unfold neeN neeE; repeat' (first | omega | split)) (by unfold neeE; repeat' (first | omega | split)), rfl⟩
                      · skip
                        refine xl_pure rfl rfl rfl (pv_assign (v := .bool _) rfl rfl) ?_
                        refine xl_nil ?_
                        refine xthen_normal ?_
                        refine xc_cond_f rfl ?_
                        refine xc_region ?_
                        refine xl_dec rfl rfl rfl (pv_eql rfl rfl rfl) (fun h20_0 => ?_) (fun h20_0 => ?_)
                        · skip
                          refine xl_pure rfl rfl rfl (pv_assign (v := .bool _) rfl rfl) ?_
                          refine xl_nil ?_
                          refine xthen_normal ?_
                          refine xc_cond_t rfl ?_
                          refine xc_seq ?_
                          refine xc_region ?_
                          refine xl_pure rfl rfl rfl (pv_move (v := .int _ _) rfl rfl) ?_
                          refine xl_pure rfl rfl rfl (pv_or (r := 10 + tkN d) rfl rfl rfl or10) ?_
                          refine xl_pure rfl rfl rfl (pv_assign (v := .int _ _) rfl rfl) ?_
                          refine xl_pure rfl rfl rfl (pv_assign (v := .int _ _) rfl rfl) ?_
                          refine xl_nil ?_
                          refine xthen_normal ?_
                          refine xc_ret ?_
                          refine xblock_ret ?_
                          refine xthen_ret ?_
                          refine fin_ret (res2 (v := .int _ _) (x := .int _ _) rfl rfl rfl) ?_
                          have hk := tkE_iff (d := d)
                          exact ⟨tup2i (by unfold neeN neeE; repeat' (first | omega | split)) (by unfold neeE; repeat' (first | omega | split)), rfl⟩
                        · skip
                          refine xl_pure rfl rfl rfl (pv_assign (v := .bool _) rfl rfl) ?_
                          refine xl_nil ?_
                          refine xthen_normal ?_
                          refine xc_cond_f rfl ?_
                          refine xc_seq ?_
                          refine xc_seq ?_
                          refine xc_region ?_
                          refine xl_dec rfl rfl rfl (pv_eql rfl rfl rfl) (fun h22_0 => ?_) (fun h22_0 => ?_)
                          · skip
                            refine xl_pure rfl rfl rfl (pv_assign (v := .bool _) rfl rfl) ?_
                            refine xl_nil ?_
                            refine xthen_normal ?_
                            refine xc_cond_t rfl ?_
                            refine xc_skip ?_
                            refine xthen_normal ?_
                            refine xc_cond_t rfl ?_
                            refine xc_seq ?_
                            refine xc_region ?_
                            refine xl_pure rfl rfl rfl (pv_assign (v := .int _ _) rfl rfl) ?_
                            refine xl_pure rfl rfl rfl (pv_assign (v := .int _ _) rfl rfl) ?_
                            refine xl_nil ?_
                            refine xthen_normal ?_
                            refine xc_ret ?_
                            refine xblock_ret ?_
                            refine xthen_ret ?_
                            refine fin_ret (res2 (v := .int _ _) (x := .int _ _) rfl rfl rfl) ?_
                            have hk := tkE_iff (d := d)
                            exact ⟨tup2i (by unfold neeN neeE; repeat' (first | omega | split)) (by unfold neeE; repeat' (first | omega | split)), rfl⟩
                          · skip
                            refine xl_pure rfl rfl rfl (pv_assign (v := .bool _) rfl rfl) ?_
                            refine xl_nil ?_
                            refine xthen_normal ?_
                            refine xc_cond_f rfl ?_
                            refine xc_seq ?_
                            refine xc_region ?_
                            refine xl_dec rfl rfl rfl (pv_eql rfl rfl rfl) (fun h23_0 => ?_) (fun h23_0 => ?_)
                            · skip
                              refine xl_pure rfl rfl rfl (pv_assign (v := .bool _) rfl rfl) ?_
                              refine xl_nil ?_
                              refine xthen_normal ?_
                              refine xc_cond_t rfl ?_
                              refine xc_skip ?_
                              refine xthen_normal ?_
                              refine xc_cond_t rfl ?_
                              refine xc_seq ?_
                              refine xc_region ?_
                              refine xl_pure rfl rfl rfl (pv_assign (v := .int _ _) rfl rfl) ?_
                              refine xl_pure rfl rfl rfl (pv_assign (v := .int _ _) rfl rfl) ?_
                              refine xl_nil ?_
                              refine xthen_normal ?_
                              refine xc_ret ?_
                              refine xblock_ret ?_
                              refine xthen_ret ?_
                              refine fin_ret (res2 (v := .int _ _) (x := .int _ _) rfl rfl rfl) ?_
                              have hk := tkE_iff (d := d)
                              exact ⟨tup2i (by unfold neeN neeE; repeat' (first | omega | split)) (by unfold neeE; repeat' (first | omega | split)), rfl⟩
                            · skip
                              refine xl_pure rfl rfl rfl (pv_assign (v := .bool _) rfl rfl) ?_
                              refine xl_nil ?_
                              refine xthen_normal ?_
                              refine xc_cond_f rfl ?_
                              refine xc_seq ?_
                              refine xc_region ?_
                              refine xl_dec rfl rfl rfl (pv_eql rfl rfl rfl) (fun h24_0 => ?_) (fun h24_0 => ?_)
                              · skip
                                refine xl_pure rfl rfl rfl (pv_assign (v := .bool _) rfl rfl) ?_
                                refine xl_nil ?_
                                refine xthen_normal ?_
                                refine xc_cond_t rfl ?_
                                refine xc_skip ?_
                                refine xthen_normal ?_
                                refine xc_cond_t rfl ?_
                                refine xc_seq ?_
                                refine xc_region ?_
                                refine xl_pure rfl rfl rfl (pv_assign (v := .int _ _) rfl rfl) ?_
                                refine xl_pure rfl rfl rfl (pv_assign (v := .int _ _) rfl rfl) ?_
                                refine xl_nil ?_
                                refine xthen_normal ?_
                                refine xc_ret ?_
                                refine xblock_ret ?_
                                refine xthen_ret ?_
                                refine fin_ret (res2 (v := .int _ _) (x := .int _ _) rfl rfl rfl) ?_
                                have hk := tkE_iff (d := d)
                                exact ⟨tup2i (by unfold neeN neeE; repeat' (first | omega | split)) (by unfold neeE; repeat' (first | omega | split)), rfl⟩
                              · skip
                                refine xl_pure rfl rfl rfl (pv_assign (v := .bool _) rfl rfl) ?_
                                refine xl_nil ?_
                                refine xthen_normal ?_
                                refine xc_cond_f rfl ?_
                                refine xc_region ?_
                                refine xl_dec rfl rfl rfl (pv_eql rfl rfl rfl) (fun h25_0 => ?_) (fun h25_0 => ?_)
                                · skip
                                  refine xl_pure rfl rfl rfl (pv_assign (v := .bool _) rfl rfl) ?_
                                  refine xl_nil ?_
                                  refine xthen_normal ?_
                                  refine xc_cond_t rfl ?_
                                  refine xc_seq ?_
                                  refine xc_region ?_
                                  refine xl_pure rfl rfl rfl (pv_assign (v := .int _ _) rfl rfl) ?_
                                  refine xl_pure rfl rfl rfl (pv_assign (v := .int _ _) rfl rfl) ?_
                                  refine xl_nil ?_
                                  refine xthen_normal ?_
                                  refine xc_ret ?_
                                  refine xblock_ret ?_
                                  refine xthen_ret ?_
                                  refine fin_ret (res2 (v := .int _ _) (x := .int _ _) rfl rfl rfl) ?_
                                  have hk := tkE_iff (d := d)
                                  exact ⟨tup2i (by unfold neeN neeE; repeat' (first | omega | split)) (by unfold neeE; repeat' (first | omega | split)), rfl⟩
                                · skip
                                  refine xl_pure rfl rfl rfl (pv_assign (v := .bool _) rfl rfl) ?_
                                  refine xl_nil ?_
                                  refine xthen_normal ?_
                                  refine xc_cond_f rfl ?_
                                  refine xc_skip ?_
                                  refine xblock_normal ?_
                                  refine xthen_normal ?_
                                  refine xc_seq ?_
                                  refine xc_region ?_
                                  refine xl_pure rfl rfl rfl (pv_assign (v := .int _ _) rfl rfl) ?_
                                  refine xl_pure rfl rfl rfl (pv_assign (v := .int _ _) rfl rfl) ?_
                                  refine xl_nil ?_
                                  refine xthen_normal ?_
                                  refine xc_ret ?_
                                  refine fin_ret (res2 (v := .int _ _) (x := .int _ _) rfl rfl rfl) ?_
                                  have hk := tkE_iff (d := d)
                                  exact ⟨tup2i (by unfold neeN neeE; repeat' (first | omega | split)) (by unfold neeE; repeat' (first | omega | split)), rfl⟩
  · skip
    refine xl_pure rfl rfl rfl (pv_move (v := .bool _) rfl rfl) ?_
    refine xl_pure rfl rfl rfl (pv_move (v := .int _ _) rfl rfl) ?_
    refine xl_ndec rfl rfl rfl (pv_neq rfl rfl rfl) (fun h2_4 => ?_) (fun h2_4 => ?_)
    · skip
      refine xl_pure rfl rfl rfl (pv_pick_t (v := .bool _) rfl rfl rfl) ?_
      refine xl_nil ?_
      refine xthen_normal ?_
      refine xc_cond_f rfl ?_
      refine xc_skip ?_
      refine xthen_normal ?_
      refine xc_seq ?_
      refine xc_seq ?_
      refine xc_region ?_
      refine xl_pure rfl rfl rfl (pv_move (v := .int _ _) rfl rfl) ?_
      refine xl_nil ?_
      refine xthen_normal ?_
      refine xc_block ?_
      refine xc_seq ?_
      refine xc_seq ?_
      refine xc_region ?_
      refine xl_dec rfl rfl rfl (pv_eql rfl rfl rfl) (fun h5_0 => ?_) (fun h5_0 => ?_)
      · skip
        refine xl_pure rfl rfl rfl (pv_assign (v := .bool _) rfl rfl) ?_
        refine xl_nil ?_
        refine xthen_normal ?_
        refine xc_cond_t rfl ?_
        refine xc_skip ?_
        refine xthen_normal ?_
        refine xc_cond_t rfl ?_
        refine xc_seq ?_
        refine xc_region ?_
        refine xl_pure rfl rfl rfl (pv_assign (v := .int _ _) rfl rfl) ?_
        refine xl_pure rfl rfl rfl (pv_assign (v := .int _ _) rfl rfl) ?_
        refine xl_nil ?_
        refine xthen_normal ?_
        refine xc_ret ?_
        refine xblock_ret ?_
        refine xthen_ret ?_
        refine fin_ret (res2 (v := .int _ _) (x := .int _ _) rfl rfl rfl) ?_
        have hk := tkE_iff (d := d)
        exact ⟨tup2i (by unfold neeN neeE; repeat' (first | omega | split)) (by unfold neeE; repeat' (first | omega | split)), rfl⟩
      · skip
        refine xl_pure rfl rfl rfl (pv_assign (v := .bool _) rfl rfl) ?_
        refine xl_nil ?_
        refine xthen_normal ?_
        refine xc_cond_f rfl ?_
        refine xc_region ?_
        refine xl_dec rfl rfl rfl (pv_eql rfl rfl rfl) (fun h6_0 => ?_) (fun h6_0 => ?_)
        · skip
          refine xl_pure rfl rfl rfl (pv_assign (v := .bool _) rfl rfl) ?_
          refine xl_nil ?_
          refine xthen_normal ?_
          refine xc_cond_t rfl ?_
          refine xc_seq ?_
          refine xc_region ?_
          refine xl_pure rfl rfl rfl (pv_assign (v := .int _ _) rfl rfl) ?_
          refine xl_pure rfl rfl rfl (pv_assign (v := .int _ _) rfl rfl) ?_
          refine xl_nil ?_
          refine xthen_normal ?_
          refine xc_ret ?_
          refine xblock_ret ?_
          refine xthen_ret ?_
          refine fin_ret (res2 (v := .int _ _) (x := .int _ _) rfl rfl rfl) ?_
          have hk := tkE_iff (d := d)
          exact ⟨tup2i (by unfold neeN neeE; repeat' (first | omega | split)) (by unfold neeE; repeat' (first | omega | split)), rfl⟩
        · skip
          refine xl_pure rfl rfl rfl (pv_assign (v := .bool _) rfl rfl) ?_
          refine xl_nil ?_
          refine xthen_normal ?_
          refine xc_cond_f rfl ?_
          refine xc_seq ?_
          refine xc_region ?_
          refine xl_dec rfl rfl rfl (pv_eql rfl rfl rfl) (fun h8_0 => ?_) (fun h8_0 => ?_)
          · skip
            refine xl_pure rfl rfl rfl (pv_assign (v := .bool _) rfl rfl) ?_
            refine xl_nil ?_
            refine xthen_normal ?_
            refine xc_cond_t rfl ?_
            refine xc_seq ?_
            refine xc_region ?_
            refine xl_pure rfl rfl rfl (pv_assign (v := .int _ _) rfl rfl) ?_
            refine xl_pure rfl rfl rfl (pv_assign (v := .int _ _) rfl rfl) ?_
            refine xl_nil ?_
            refine xthen_normal ?_
            refine xc_ret ?_
            refine xblock_ret ?_
            refine xthen_ret ?_
            refine fin_ret (res2 (v := .int _ _) (x := .int _ _) rfl rfl rfl) ?_
            have hk := tkE_iff (d := d)
            exact ⟨tup2i (by unfold neeN neeE; repeat' (first | omega | split)) (by unfold neeE; repeat' (first | omega | split)), rfl⟩
          · skip
            refine xl_pure rfl rfl rfl (pv_assign (v := .bool _) rfl rfl) ?_
            refine xl_nil ?_
            refine xthen_normal ?_
            refine xc_cond_f rfl ?_
            refine xc_seq ?_
            refine xc_region ?_
            refine xl_dec rfl rfl rfl (pv_eql rfl rfl rfl) (fun h10_0 => ?_) (fun h10_0 => ?_)
            · skip
              refine xl_pure rfl rfl rfl (pv_assign (v := .bool _) rfl rfl) ?_
              refine xl_nil ?_
              refine xthen_normal ?_
              refine xc_cond_t rfl ?_
              refine xc_seq ?_
              refine xc_region ?_
              refine xl_pure rfl rfl rfl (pv_move (v := .int _ _) rfl rfl) ?_
              refine xl_pure rfl rfl rfl (pv_assign (v := .int _ _) rfl rfl) ?_
              refine xl_pure rfl rfl rfl (pv_assign (v := .int _ _) rfl rfl) ?_
              refine xl_nil ?_
              refine xthen_normal ?_
              refine xc_ret ?_
              refine xblock_ret ?_
              refine xthen_ret ?_
              refine fin_ret (res2 (v := .int _ _) (x := .int _ _) rfl rfl rfl) ?_
              have hk := tkE_iff (d := d)
              exact ⟨tup2i (by unfold neeN neeE; repeat' (first | omega | split)) (by unfold neeE; repeat' (first | omega | split)), rfl⟩
            · skip
              refine xl_pure rfl rfl rfl (pv_assign (v := .bool _) rfl rfl) ?_
              refine xl_nil ?_
              refine xthen_normal ?_
              refine xc_cond_f rfl ?_
              refine xc_seq ?_
              refine xc_region ?_
              refine xl_dec rfl rfl rfl (pv_eql rfl rfl rfl) (fun h12_0 => ?_) (fun h12_0 => ?_)
              · skip
                refine xl_pure rfl rfl rfl (pv_assign (v := .bool _) rfl rfl) ?_
                refine xl_nil ?_
                refine xthen_normal ?_
                refine xc_cond_t rfl ?_
                refine xc_seq ?_
                refine xc_region ?_
                refine xl_pure rfl rfl rfl (pv_move (v := .int _ _) rfl rfl) ?_
                refine xl_pure rfl rfl rfl (pv_or (r := 4 + tkN d) rfl rfl rfl or4) ?_
                refine xl_pure rfl rfl rfl (pv_assign (v := .int _ _) rfl rfl) ?_
                refine xl_pure rfl rfl rfl (pv_assign (v := .int _ _) rfl rfl) ?_
                refine xl_nil ?_
                refine xthen_normal ?_
                refine xc_ret ?_
                refine xblock_ret ?_
                refine xthen_ret ?_
                refine fin_ret (res2 (v := .int _ _) (x := .int _ _) rfl rfl rfl) ?_
                have hk := tkE_iff (d := d)
                exact ⟨tup2i (by unfold neeN neeE; repeat' (first | omega | split)) (by unfold neeE; repeat' (first | omega | split)), rfl⟩
              · skip
                refine xl_pure rfl rfl rfl (pv_assign (v := .bool _) rfl rfl) ?_
                refine xl_nil ?_
                refine xthen_normal ?_
                refine xc_cond_f rfl ?_
                refine xc_seq ?_
                refine xc_seq ?_
                refine xc_region ?_
                refine xl_dec rfl rfl rfl (pv_eql rfl rfl rfl) (fun h14_0 => ?_) (fun h14_0 => ?_)
                · skip
                  refine xl_pure rfl rfl rfl (pv_assign (v := .bool _) rfl rfl) ?_
                  refine xl_nil ?_
                  refine xthen_normal ?_
                  refine xc_cond_t rfl ?_
                  refine xc_skip ?_
                  refine xthen_normal ?_
                  refine xc_cond_t rfl ?_
                  refine xc_seq ?_
                  refine xc_region ?_
                  refine xl_pure rfl rfl rfl (pv_assign (v := .int _ _) rfl rfl) ?_
                  refine xl_pure rfl rfl rfl (pv_assign (v := .int _ _) rfl rfl) ?_
                  refine xl_nil ?_
                  refine xthen_normal ?_
                  refine xc_ret ?_
                  refine xblock_ret ?_
                  refine xthen_ret ?_
                  refine fin_ret (res2 (v := .int _ _) (x := .int _ _) rfl rfl rfl) ?_
                  have hk := tkE_iff (d := d)
                  exact ⟨tup2i (by unfold neeN neeE; repeat' (first | omega | split)) (by unfold neeE; repeat' (first | omega | split)), rfl⟩
                · skip
                  refine xl_pure rfl rfl rfl (pv_assign (v := .bool _) rfl rfl) ?_
                  refine xl_nil ?_
                  refine xthen_normal ?_
                  refine xc_cond_f rfl ?_
                  refine xc_seq ?_
                  refine xc_region ?_
                  refine xl_dec rfl rfl rfl (pv_eql rfl rfl rfl) (fun h15_0 => ?_) (fun h15_0 => ?_)
                  · skip
                    refine xl_pure rfl rfl rfl (pv_assign (v := .bool _) rfl rfl) ?_
                    refine xl_nil ?_
                    refine xthen_normal ?_
                    refine xc_cond_t rfl ?_
                    refine xc_skip ?_
                    refine xthen_normal ?_
                    refine xc_cond_t rfl ?_
                    refine xc_seq ?_
                    refine xc_region ?_
                    refine xl_pure rfl rfl rfl (pv_assign (v := .int _ _) rfl rfl) ?_
                    refine xl_pure rfl rfl rfl (pv_assign (v := .int _ _) rfl rfl) ?_
                    refine xl_nil ?_
                    refine xthen_normal ?_
                    refine xc_ret ?_
                    refine xblock_ret ?_
                    refine xthen_ret ?_
                    refine fin_ret (res2 (v := .int _ _) (x := .int _ _) rfl rfl rfl) ?_
                    have hk := tkE_iff (d := d)
                    exact ⟨tup2i (by unfold neeN neeE; repeat' (first | omega | split)) (by unfold neeE; repeat' (first | omega | split)), rfl⟩
                  · skip
                    refine xl_pure rfl rfl rfl (pv_assign (v := .bool _) rfl rfl) ?_
                    refine xl_nil ?_
                    refine xthen_normal ?_
                    refine xc_cond_f rfl ?_
                    refine xc_seq ?_
                    refine xc_region ?_
                    refine xl_dec rfl rfl rfl (pv_eql rfl rfl rfl) (fun h16_0 => ?_) (fun h16_0 => ?_)
                    · skip
                      refine xl_pure rfl rfl rfl (pv_assign (v := .bool _) rfl rfl) ?_
                      refine xl_nil ?_
                      refine xthen_normal ?_
                      refine xc_cond_t rfl ?_
                      refine xc_skip ?_
                      refine xthen_normal ?_
                      refine xc_cond_t rfl ?_
                      refine xc_seq ?_
                      refine xc_region ?_
                      refine xl_pure rfl rfl rfl (pv_assign (v := .int _ _) rfl rfl) ?_
                      refine xl_pure rfl rfl rfl (pv_assign (v := .int _ _) rfl rfl) ?_
                      refine xl_nil ?_
                      refine xthen_normal ?_
                      refine xc_ret ?_
                      refine xblock_ret ?_
                      refine xthen_ret ?_
                      refine fin_ret (res2 (v := .int _ _) (x := .int _ _) rfl rfl rfl) ?_
                      have hk := tkE_iff (d := d)
                      exact ⟨tup2i (by unfold neeN neeE; repeat' (first | omega | split)) (by unfold neeE; repeat' (first | omega | split)), rfl⟩
                    · skip
                      refine xl_pure rfl rfl rfl (pv_assign (v := .bool _) rfl rfl) ?_
                      refine xl_nil ?_
                      refine xthen_normal ?_
                      refine xc_cond_f rfl ?_
                      refine xc_region ?_
                      refine xl_dec rfl rfl rfl (pv_eql rfl rfl rfl) (fun h17_0 => ?_) (fun h17_0 => ?_)
                      · skip
                        refine xl_pure rfl rfl rfl (pv_assign (v := .bool _) rfl rfl) ?_
                        refine xl_nil ?_
                        refine xthen_normal ?_
                        refine xc_cond_t rfl ?_
                        refine xc_seq ?_
                        refine xc_region ?_
                        refine xl_pure rfl rfl rfl (pv_assign (v := .int _ _) rfl rfl) ?_
                        refine xl_pure rfl rfl rfl (pv_assign (v := .int _ _) rfl rfl) ?_
                        refine xl_nil ?_
                        refine xthen_normal ?_
                        refine xc_ret ?_
                        refine xblock_ret ?_
                        refine xthen_ret ?_
                        refine fin_ret (res2 (v := .int _ _) (x := .int _ _) rfl rfl rfl) ?_
                        have hk := tkE_iff (d := d)
                        exact ⟨tup2i (by unfold neeN neeE; repeat' (first | omega | split)) (by unfold neeE; repeat' (first | omega | split)), rfl⟩
                      · skip
                        refine xl_pure rfl rfl rfl (pv_assign (v := .bool _) rfl rfl) ?_
                        refine xl_nil ?_
                        refine xthen_normal ?_
                        refine xc_cond_f rfl ?_
                        refine xc_seq ?_
                        refine xc_seq ?_
                        refine xc_region ?_
                        refine xl_dec rfl rfl rfl (pv_eql rfl rfl rfl) (fun h19_0 => ?_) (fun h19_0 => ?_)
                        · skip
                          refine xl_pure rfl rfl rfl (pv_assign (v := .bool _) rfl rfl) ?_
                          refine xl_nil ?_
                          refine xthen_normal ?_
                          refine xc_cond_t rfl ?_
                          refine xc_skip ?_
                          refine xthen_normal ?_
                          refine xc_cond_t rfl ?_
                          refine xc_seq ?_
                          refine xc_region ?_
                          refine xl_pure rfl rfl rfl (pv_move (v := .int _ _) rfl rfl) ?_
                          refine xl_pure rfl rfl rfl (pv_or (r := 10 + tkN d) rfl rfl rfl or10) ?_
                          refine xl_pure rfl rfl rfl (pv_assign (v := .int _ _) rfl rfl) ?_
                          refine xl_pure rfl rfl rfl (pv_assign (v := .int _ _) rfl rfl) ?_
                          refine xl_nil ?_
                          refine xthen_normal ?_
                          refine xc_ret ?_
                          refine xblock_ret ?_
                          refine xthen_ret ?_
                          refine fin_ret (res2 (v := .int _ _) (x := .int _ _) rfl rfl rfl) ?_
                          have hk := tkE_iff (d := d)
                          exact ⟨tup2i (by unfold neeN neeE; repeat' (first | omega | split)) (by unfold neeE; repeat' (first | omega | split)), rfl⟩
                        · skip
                          refine xl_pure rfl rfl rfl (pv_assign (v := .bool _) rfl rfl) ?_
                          refine xl_nil ?_
                          refine xthen_normal ?_
                          refine xc_cond_f rfl ?_
                          refine xc_region ?_
                          refine xl_dec rfl rfl rfl (pv_eql rfl rfl rfl) (fun h20_0 => ?_) (fun h20_0 => ?_)
                          · skip
                            refine xl_pure rfl rfl rfl (pv_assign (v := .bool _) rfl rfl) ?_
                            refine xl_nil ?_
                            refine xthen_normal ?_
                            refine xc_cond_t rfl ?_
                            refine xc_seq ?_
                            refine xc_region ?_
                            refine xl_pure rfl rfl rfl (pv_move (v := .int _ _) rfl rfl) ?_
                            refine xl_pure rfl rfl rfl (pv_or (r := 10 + tkN d) rfl rfl rfl or10) ?_
                            refine xl_pure rfl rfl rfl (pv_assign (v := .int _ _) rfl rfl) ?_
                            refine xl_pure rfl rfl rfl (pv_assign (v := .int _ _) rfl rfl) ?_
                            refine xl_nil ?_
                            refine xthen_normal ?_
                            refine xc_ret ?_
                            refine xblock_ret ?_
                            refine xthen_ret ?_
                            refine fin_ret (res2 (v := .int _ _) (x := .int _ _) rfl rfl rfl) ?_
                            have hk := tkE_iff (d := d)
                            exact ⟨tup2i (by unfold neeN neeE; repeat' (first | omega | split)) (by unfold neeE; repeat' (first | omega | split)), rfl⟩
                          · skip
                            refine xl_pure rfl rfl rfl (pv_assign (v := .bool _) rfl rfl) ?_
                            refine xl_nil ?_
                            refine xthen_normal ?_
                            refine xc_cond_f rfl ?_
                            refine xc_seq ?_
                            refine xc_seq ?_
                            refine xc_region ?_
                            refine xl_dec rfl rfl rfl (pv_eql rfl rfl rfl) (fun h22_0 => ?_) (fun h22_0 => ?_)
                            · skip
                              refine xl_pure rfl rfl rfl (pv_assign (v := .bool _) rfl rfl) ?_
                              refine xl_nil ?_
                              refine xthen_normal ?_
                              refine xc_cond_t rfl ?_
                              refine xc_skip ?_
                              refine xthen_normal ?_
                              refine xc_cond_t rfl ?_
                              refine xc_seq ?_
                              refine xc_region ?_
                              refine xl_pure rfl rfl rfl (pv_assign (v := .int _ _) rfl rfl) ?_
                              refine xl_pure rfl rfl rfl (pv_assign (v := .int _ _) rfl rfl) ?_
                              refine xl_nil ?_
                              refine xthen_normal ?_
                              refine xc_ret ?_
                              refine xblock_ret ?_
                              refine xthen_ret ?_
                              refine fin_ret (res2 (v := .int _ _) (x := .int _ _) rfl rfl rfl) ?_
                              have hk := tkE_iff (d := d)
                              exact ⟨tup2i (by unfold neeN neeE; repeat' (first | omega | split)) (by unfold neeE; repeat' (first | omega | split)), rfl⟩
                            · skip
                              refine xl_pure rfl rfl rfl (pv_assign (v := .bool _) rfl rfl) ?_
                              refine xl_nil ?_
                              refine xthen_normal ?_
                              refine xc_cond_f rfl ?_
                              refine xc_seq ?_
                              refine xc_region ?_
                              refine xl_dec rfl rfl rfl (pv_eql rfl rfl rfl) (fun h23_0 => ?_) (fun h23_0 => ?_)
                              · skip
                                refine xl_pure rfl rfl rfl (pv_assign (v := .bool _) rfl rfl) ?_
                                refine xl_nil ?_
                                refine xthen_normal ?_
                                refine xc_cond_t rfl ?_
                                refine xc_skip ?_
                                refine xthen_normal ?_
                                refine xc_cond_t rfl ?_
                                refine xc_seq ?_
                                refine xc_region ?_
                                refine xl_pure rfl rfl rfl (pv_assign (v := .int _ _) rfl rfl) ?_
                                refine xl_pure rfl rfl rfl (pv_assign (v := .int _ _) rfl rfl) ?_
                                refine xl_nil ?_
                                refine xthen_normal ?_
                                refine xc_ret ?_
                                refine xblock_ret ?_
                                refine xthen_ret ?_
                                refine fin_ret (res2 (v := .int _ _) (x := .int _ _) rfl rfl rfl) ?_
                                have hk := tkE_iff (d := d)
                                exact ⟨tup2i (by unfold neeN neeE; repeat' (first | omega | split)) (by unfold neeE; repeat' (first | omega | split)), rfl⟩
                              · skip
                                refine xl_pure rfl rfl rfl (pv_assign (v := .bool _) rfl rfl) ?_
                                refine xl_nil ?_
                                refine xthen_normal ?_
                                refine xc_cond_f rfl ?_
                                refine xc_seq ?_
                                refine xc_region ?_
                                refine xl_dec rfl rfl rfl (pv_eql rfl rfl rfl) (fun h24_0 => ?_) (fun h24_0 => ?_)
                                · skip
                                  refine xl_pure rfl rfl rfl (pv_assign (v := .bool _) rfl rfl) ?_
                                  refine xl_nil ?_
                                  refine xthen_normal ?_
                                  refine xc_cond_t rfl ?_
                                  refine xc_skip ?_
                                  refine xthen_normal ?_
                                  refine xc_cond_t rfl ?_
                                  refine xc_seq ?_
                                  refine xc_region ?_
                                  refine xl_pure rfl rfl rfl (pv_assign (v := .int _ _) rfl rfl) ?_
                                  refine xl_pure rfl rfl rfl (pv_assign (v := .int _ _) rfl rfl) ?_
                                  refine xl_nil ?_
                                  refine xthen_normal ?_
                                  refine xc_ret ?_
                                  refine xblock_ret ?_
                                  refine xthen_ret ?_
                                  refine fin_ret (res2 (v := .int _ _) (x := .int _ _) rfl rfl rfl) ?_
                                  have hk := tkE_iff (d := d)
                                  exact ⟨tup2i (by unfold neeN neeE; repeat' (first | omega | split)) (by unfold neeE; repeat' (first | omega | split)), rfl⟩
                                · skip
                                  refine xl_pure rfl rfl rfl (pv_assign (v := .bool _) rfl rfl) ?_
                                  refine xl_nil ?_
                                  refine xthen_normal ?_
                                  refine xc_cond_f rfl ?_
                                  refine xc_region ?_
                                  refine xl_dec rfl rfl rfl (pv_eql rfl rfl rfl) (fun h25_0 => ?_) (fun h25_0 => ?_)
                                  · skip
                                    refine xl_pure rfl rfl rfl (pv_assign (v := .bool _) rfl rfl) ?_
                                    refine xl_nil ?_
                                    refine xthen_normal ?_
                                    refine xc_cond_t rfl ?_
                                    refine xc_seq ?_
                                    refine xc_region ?_
                                    refine xl_pure rfl rfl rfl (pv_assign (v := .int _ _) rfl rfl) ?_
                                    refine xl_pure rfl rfl rfl (pv_assign (v := .int _ _) rfl rfl) ?_
                                    refine xl_nil ?_
                                    refine xthen_normal ?_
                                    refine xc_ret ?_
                                    refine xblock_ret ?_
                                    refine xthen_ret ?_
                                    refine fin_ret (res2 (v := .int _ _) (x := .int _ _) rfl rfl rfl) ?_
                                    have hk := tkE_iff (d := d)
                                    exact ⟨tup2i (by unfold neeN neeE; repeat' (first | omega | split)) (by unfold neeE; repeat' (first | omega | split)), rfl⟩
                                  · skip
                                    refine xl_pure rfl rfl rfl (pv_assign (v := .bool _) rfl rfl) ?_
                                    refine xl_nil ?_
                                    refine xthen_normal ?_
                                    refine xc_cond_f rfl ?_
                                    refine xc_skip ?_
                                    refine xblock_normal ?_
                                    refine xthen_normal ?_
                                    refine xc_seq ?_
                                    refine xc_region ?_
                                    refine xl_pure rfl rfl rfl (pv_assign (v := .int _ _) rfl rfl) ?_
                                    refine xl_pure rfl rfl rfl (pv_assign (v := .int _ _) rfl rfl) ?_
                                    refine xl_nil ?_
                                    refine xthen_normal ?_
                                    refine xc_ret ?_
                                    refine fin_ret (res2 (v := .int _ _) (x := .int _ _) rfl rfl rfl) ?_
                                    have hk := tkE_iff (d := d)
                                    exact ⟨tup2i (by unfold neeN neeE; repeat' (first | omega | split)) (by unfold neeE; repeat' (first | omega | split)), rfl⟩
    · skip
      refine xl_pure rfl rfl rfl (pv_pick_t (v := .bool _) rfl rfl rfl) ?_
      refine xl_nil ?_
      refine xthen_normal ?_
      refine xc_cond_t rfl ?_
      refine xc_seq ?_
      refine xc_region ?_
      refine xl_pure rfl rfl rfl (pv_assign (v := .int _ _) rfl rfl) ?_
      refine xl_pure rfl rfl rfl (pv_assign (v := .int _ _) rfl rfl) ?_
      refine xl_nil ?_
      refine xthen_normal ?_
      refine xc_ret ?_
      refine xthen_ret ?_
      refine fin_ret (res2 (v := .int _ _) (x := .int _ _) rfl rfl rfl) ?_
      have hk := tkE_iff (d := d)
      exact ⟨tup2i (by unfold neeN neeE; repeat' (first | omega | split)) (by unfold neeE; repeat' (first | omega | split)), rfl⟩

theorem rNeeds {O : Outer} {H : Heap} (k d : Int) :
    FnC Try.prog 7 #[.int .i64 k, .int .i64 d] O H (fun v H' => v = .tuple #[.int .i64 (neeN k d), .int .i64 (neeE k d)] ∧ H = H') := by
  have htk := tk_le (d := d)
  refine fn_enter (A := [.int .i64 k, .int .i64 d]) Try.func7 rfl rfl ?_
  have hX := Ext.refl H
  refine xc_seq ?_
  refine xc_region ?_
  refine xl_pure rfl rfl rfl (pv_assign (v := .int _ _) rfl rfl) ?_
  refine xl_pure rfl rfl rfl (pv_assign (v := .int _ _) rfl rfl) ?_
  refine xl_nil ?_
  refine xthen_normal ?_
  refine xc_seq ?_
  refine xc_seq ?_
  refine xc_region ?_
  refine xl_pure rfl rfl rfl (pv_move (v := .int _ _) rfl rfl) ?_
  refine xl_dec rfl rfl rfl (pv_lss rfl rfl rfl) (fun h1_1 => ?_) (fun h1_1 => ?_)
  · skip
    refine xl_pure rfl rfl rfl (pv_move (v := .bool _) rfl rfl) ?_
    refine xl_skip rfl rfl rfl ?_
    refine xl_skip rfl rfl rfl ?_
    refine xl_pure rfl rfl rfl (pv_pick_t (v := .bool _) rfl rfl rfl) ?_
    refine xl_nil ?_
    refine xthen_normal ?_
    refine xc_cond_t rfl ?_
    refine xc_seq ?_
    refine xc_region ?_
    refine xl_pure rfl rfl rfl (pv_assign (v := .int _ _) rfl rfl) ?_
    refine xl_pure rfl rfl rfl (pv_assign (v := .int _ _) rfl rfl) ?_
    refine xl_nil ?_
    refine xthen_normal ?_
    refine xc_ret ?_
    refine xthen_ret ?_
    refine fin_ret (res2 (v := .int _ _) (x := .int _ _) rfl rfl rfl) ?_
    have hk := tkE_iff (d := d)
    exact ⟨tup2i (by unfold neeN neeE; repeat' (first | omega | split)) (by unfold neeE; repeat' (first | omega | split)), rfl⟩
  · skip
    refine xl_pure rfl rfl rfl (pv_move (v := .bool _) rfl rfl) ?_
    refine xl_pure rfl rfl rfl (pv_move (v := .int _ _) rfl rfl) ?_
    refine xl_dec rfl rfl rfl (pv_gtr rfl rfl rfl) (fun h1_4 => ?_) (fun h1_4 => ?_)
    · skip
      refine xl_pure rfl rfl rfl (pv_pick_f (v := .bool _) rfl rfl rfl) ?_
      refine xl_nil ?_
      refine xthen_normal ?_
      refine xc_cond_t rfl ?_
      refine xc_seq ?_
      refine xc_region ?_
      refine xl_pure rfl rfl rfl (pv_assign (v := .int _ _) rfl rfl) ?_
      refine xl_pure rfl rfl rfl (pv_assign (v := .int _ _) rfl rfl) ?_
      refine xl_nil ?_
      refine xthen_normal ?_
      refine xc_ret ?_
      refine xthen_ret ?_
      refine fin_ret (res2 (v := .int _ _) (x := .int _ _) rfl rfl rfl) ?_
      have hk := tkE_iff (d := d)
      exact ⟨tup2i (by unfold neeN neeE; repeat' (first | omega | split)) (by unfold neeE; repeat' (first | omega | split)), rfl⟩
    · skip
      refine xl_pure rfl rfl rfl (pv_pick_f (v := .bool _) rfl rfl rfl) ?_
      refine xl_nil ?_
      refine xthen_normal ?_
      refine xc_cond_f rfl ?_
      refine xc_skip ?_
      refine xthen_normal ?_
      refine xc_seq ?_
      refine xc_region ?_
      refine xl_pure rfl rfl rfl (pv_move (v := .int _ _) rfl rfl) ?_
      refine xl_heavy rfl rfl rfl (hv_call (g := 25) rfl rfl (rTake d) rfl) ?_
      rintro v3_1 H3_1 ⟨rfl, rfl⟩
      refine xl_pure rfl rfl rfl (pv_move (v := .tuple _) rfl rfl) ?_
      refine xl_pure rfl rfl rfl (pv_extract (v := .int _ _) rfl rfl rfl) ?_
      refine xl_pure rfl rfl rfl (pv_extract (v := .int _ _) rfl rfl rfl) ?_
      refine xl_pure rfl rfl rfl (pv_assign (v := .int _ _) rfl rfl) ?_
      refine xl_pure rfl rfl rfl (pv_assign (v := .int _ _) rfl rfl) ?_
      refine xl_nil ?_
      refine xthen_normal ?_
      refine xc_seq ?_
      refine xc_seq ?_
      refine xc_region ?_
      refine xl_pure rfl rfl rfl (pv_move (v := .int _ _) rfl rfl) ?_
      refine xl_nil ?_
      refine xthen_normal ?_
      refine xc_block ?_
      refine xc_seq ?_
      refine xc_seq ?_
      refine xc_region ?_
      refine xl_dec rfl rfl rfl (pv_eql rfl rfl rfl) (fun h5_0 => ?_) (fun h5_0 => ?_)
      · skip
        refine xl_pure rfl rfl rfl (pv_assign (v := .bool _) rfl rfl) ?_
        refine xl_nil ?_
        refine xthen_normal ?_
        refine xc_cond_t rfl ?_
        refine xc_skip ?_
        refine xthen_normal ?_
        refine xc_cond_t rfl ?_
        refine xc_seq ?_
        refine xc_region ?_
        refine xl_pure rfl rfl rfl (pv_assign (v := .int _ _) rfl rfl) ?_
        refine xl_pure rfl rfl rfl (pv_assign (v := .int _ _) rfl rfl) ?_
        refine xl_nil ?_
        refine xthen_normal ?_
        refine xc_ret ?_
        refine xblock_ret ?_
        refine xthen_ret ?_
        refine fin_ret (res2 (v := .int _ _) (x := .int _ _) rfl rfl rfl) ?_
        have hk := tkE_iff (d := d)
        exact ⟨tup2i (by unfold neeN neeE; repeat' (first | omega | split)) (by unfold neeE; repeat' (first | omega | split)), rfl⟩
      · skip
        refine xl_pure rfl rfl rfl (pv_assign (v := .bool _) rfl rfl) ?_
        refine xl_nil ?_
        refine xthen_normal ?_
        refine xc_cond_f rfl ?_
        refine xc_region ?_
        refine xl_dec rfl rfl rfl (pv_eql rfl rfl rfl) (fun h6_0 => ?_) (fun h6_0 => ?_)
        · skip
          refine xl_pure rfl rfl rfl (pv_assign (v := .bool _) rfl rfl) ?_
          refine xl_nil ?_
          refine xthen_normal ?_
          refine xc_cond_t rfl ?_
          refine xc_seq ?_
          refine xc_region ?_
          refine xl_pure rfl rfl rfl (pv_assign (v := .int _ _) rfl rfl) ?_
          refine xl_pure rfl rfl rfl (pv_assign (v := .int _ _) rfl rfl) ?_
          refine xl_nil ?_
          refine xthen_normal ?_
          refine xc_ret ?_
          refine xblock_ret ?_
          refine xthen_ret ?_
          refine fin_ret (res2 (v := .int _ _) (x := .int _ _) rfl rfl rfl) ?_
          have hk := tkE_iff (d := d)
          exact ⟨tup2i (by unfold neeN neeE; repeat' (first | omega | split)) (by unfold neeE; repeat' (first | omega | split)), rfl⟩
        · skip
          refine xl_pure rfl rfl rfl (pv_assign (v := .bool _) rfl rfl) ?_
          refine xl_nil ?_
          refine xthen_normal ?_
          refine xc_cond_f rfl ?_
          refine xc_seq ?_
          refine xc_region ?_
          refine xl_dec rfl rfl rfl (pv_eql rfl rfl rfl) (fun h8_0 => ?_) (fun h8_0 => ?_)
          · skip
            refine xl_pure rfl rfl rfl (pv_assign (v := .bool _) rfl rfl) ?_
            refine xl_nil ?_
            refine xthen_normal ?_
            refine xc_cond_t rfl ?_
            refine xc_seq ?_
            refine xc_region ?_
            refine xl_pure rfl rfl rfl (pv_assign (v := .int _ _) rfl rfl) ?_
            refine xl_pure rfl rfl rfl (pv_assign (v := .int _ _) rfl rfl) ?_
            refine xl_nil ?_
            refine xthen_normal ?_
            refine xc_ret ?_
            refine xblock_ret ?_
            refine xthen_ret ?_
            refine fin_ret (res2 (v := .int _ _) (x := .int _ _) rfl rfl rfl) ?_
            have hk := tkE_iff (d := d)
            exact ⟨tup2i (by unfold neeN neeE; repeat' (first | omega | split)) (by unfold neeE; repeat' (first | omega | split)), rfl⟩
          · skip
            refine xl_pure rfl rfl rfl (pv_assign (v := .bool _) rfl rfl) ?_
            refine xl_nil ?_
            refine xthen_normal ?_
            refine xc_cond_f rfl ?_
            refine xc_seq ?_
            refine xc_region ?_
            refine xl_dec rfl rfl rfl (pv_eql rfl rfl rfl) (fun h10_0 => ?_) (fun h10_0 => ?_)
            · skip
              refine xl_pure rfl rfl rfl (pv_assign (v := .bool _) rfl rfl) ?_
              refine xl_nil ?_
              refine xthen_normal ?_
              refine xc_cond_t rfl ?_
              refine xc_seq ?_
              refine xc_region ?_
              refine xl_pure rfl rfl rfl (pv_move (v := .int _ _) rfl rfl) ?_
              refine xl_pure rfl rfl rfl (pv_assign (v := .int _ _) rfl rfl) ?_
              refine xl_pure rfl rfl rfl (pv_assign (v := .int _ _) rfl rfl) ?_
              refine xl_nil ?_
              refine xthen_normal ?_
              refine xc_ret ?_
              refine xblock_ret ?_
              refine xthen_ret ?_
              refine fin_ret (res2 (v := .int _ _) (x := .int _ _) rfl rfl rfl) ?_
              have hk := tkE_iff (d := d)
              exact ⟨tup2i (by unfold neeN neeE; repeat' (first | omega | split)) (by unfold neeE; repeat' (first | omega | split)), rfl⟩
            · skip
              refine xl_pure rfl rfl rfl (pv_assign (v := .bool _) rfl rfl) ?_
              refine xl_nil ?_
              refine xthen_normal ?_
              refine xc_cond_f rfl ?_
              refine xc_seq ?_
              refine xc_region ?_
              refine xl_dec rfl rfl rfl (pv_eql rfl rfl rfl) (fun h12_0 => ?_) (fun h12_0 => ?_)
              · skip
                refine xl_pure rfl rfl rfl (pv_assign (v := .bool _) rfl rfl) ?_
                refine xl_nil ?_
                refine xthen_normal ?_
                refine xc_cond_t rfl ?_
                refine xc_seq ?_
                refine xc_region ?_
                refine xl_pure rfl rfl rfl (pv_move (v := .int _ _) rfl rfl) ?_
                refine xl_pure rfl rfl rfl (pv_add rfl rfl rfl (fit_i64 (by omega))) ?_
                refine xl_pure rfl rfl rfl (pv_assign (v := .int _ _) rfl rfl) ?_
                refine xl_pure rfl rfl rfl (pv_assign (v := .int _ _) rfl rfl) ?_
                refine xl_nil ?_
                refine xthen_normal ?_
                refine xc_ret ?_
                refine xblock_ret ?_
                refine xthen_ret ?_
                refine fin_ret (res2 (v := .int _ _) (x := .int _ _) rfl rfl rfl) ?_
                have hk := tkE_iff (d := d)
                exact ⟨tup2i (by unfold neeN neeE; repeat' (first | omega | split)) (by unfold neeE; repeat' (first | omega | split)), rfl⟩
              · skip
                refine xl_pure rfl rfl rfl (pv_assign (v := .bool _) rfl rfl) ?_
                refine xl_nil ?_
                refine xthen_normal ?_
                refine xc_cond_f rfl ?_
                refine xc_seq ?_
                refine xc_seq ?_
                refine xc_region ?_
                refine xl_dec rfl rfl rfl (pv_eql rfl rfl rfl) (fun h14_0 => ?_) (fun h14_0 => ?_)
                · skip
                  refine xl_pure rfl rfl rfl (pv_assign (v := .bool _) rfl rfl) ?_
                  refine xl_nil ?_
                  refine xthen_normal ?_
                  refine xc_cond_t rfl ?_
                  refine xc_skip ?_
                  refine xthen_normal ?_
                  refine xc_cond_t rfl ?_
                  refine xc_seq ?_
                  refine xc_region ?_
                  refine xl_pure rfl rfl rfl (pv_assign (v := .int _ _) rfl rfl) ?_
                  refine xl_pure rfl rfl rfl (pv_assign (v := .int _ _) rfl rfl) ?_
                  refine xl_nil ?_
                  refine xthen_normal ?_
                  refine xc_ret ?_
                  refine xblock_ret ?_
                  refine xthen_ret ?_
                  refine fin_ret (res2 (v := .int _ _) (x := .int _ _) rfl rfl rfl) ?_
                  have hk := tkE_iff (d := d)
                  exact ⟨tup2i (by unfold neeN neeE; repeat' (first | omega | split)) (by unfold neeE; repeat' (first | omega | split)), rfl⟩
                · skip
                  refine xl_pure rfl rfl rfl (pv_assign (v := .bool _) rfl rfl) ?_
                  refine xl_nil ?_
                  refine xthen_normal ?_
                  refine xc_cond_f rfl ?_
                  refine xc_seq ?_
                  refine xc_region ?_
                  refine xl_dec rfl rfl rfl (pv_eql rfl rfl rfl) (fun h15_0 => ?_) (fun h15_0 => ?_)
                  · skip
                    refine xl_pure rfl rfl rfl (pv_assign (v := .bool _) rfl rfl) ?_
                    refine xl_nil ?_
                    refine xthen_normal ?_
                    refine xc_cond_t rfl ?_
                    refine xc_skip ?_
                    refine xthen_normal ?_
                    refine xc_cond_t rfl ?_
                    refine xc_seq ?_
                    refine xc_region ?_
                    refine xl_pure rfl rfl rfl (pv_assign (v := .int _ _) rfl rfl) ?_
                    refine xl_pure rfl rfl rfl (pv_assign (v := .int _ _) rfl rfl) ?_
                    refine xl_nil ?_
                    refine xthen_normal ?_
                    refine xc_ret ?_
                    refine xblock_ret ?_
                    refine xthen_ret ?_
                    refine fin_ret (res2 (v := .int _ _) (x := .int _ _) rfl rfl rfl) ?_
                    have hk := tkE_iff (d := d)
                    exact ⟨tup2i (by unfold neeN neeE; repeat' (first | omega | split)) (by unfold neeE; repeat' (first | omega | split)), rfl⟩
                  · skip
                    refine xl_pure rfl rfl rfl (pv_assign (v := .bool _) rfl rfl) ?_
                    refine xl_nil ?_
                    refine xthen_normal ?_
                    refine xc_cond_f rfl ?_
                    refine xc_seq ?_
                    refine xc_region ?_
                    refine xl_dec rfl rfl rfl (pv_eql rfl rfl rfl) (fun h16_0 => ?_) (fun h16_0 => ?_)
                    · skip
                      refine xl_pure rfl rfl rfl (pv_assign (v := .bool _) rfl rfl) ?_
                      refine xl_nil ?_
                      refine xthen_normal ?_
                      refine xc_cond_t rfl ?_
                      refine xc_skip ?_
                      refine xthen_normal ?_
                      refine xc_cond_t rfl ?_
                      refine xc_seq ?_
                      refine xc_region ?_
                      refine xl_pure rfl rfl rfl (pv_assign (v := .int _ _) rfl rfl) ?_
                      refine xl_pure rfl rfl rfl (pv_assign (v := .int _ _) rfl rfl) ?_
                      refine xl_nil ?_
                      refine xthen_normal ?_
                      refine xc_ret ?_
                      refine xblock_ret ?_
                      refine xthen_ret ?_
                      refine fin_ret (res2 (v := .int _ _) (x := .int _ _) rfl rfl rfl) ?_
                      have hk := tkE_iff (d := d)
                      exact ⟨tup2i (by unfold neeN neeE; repeat' (first | omega | split)) (by unfold neeE; repeat' (first | omega | split)), rfl⟩
                    · skip
                      refine xl_pure rfl rfl rfl (pv_assign (v := .bool _) rfl rfl) ?_
                      refine xl_nil ?_
                      refine xthen_normal ?_
                      refine xc_cond_f rfl ?_
                      refine xc_region ?_
                      refine xl_dec rfl rfl rfl (pv_eql rfl rfl rfl) (fun h17_0 => ?_) (fun h17_0 => ?_)
                      · skip
                        refine xl_pure rfl rfl rfl (pv_assign (v := .bool _) rfl rfl) ?_
                        refine xl_nil ?_
                        refine xthen_normal ?_
                        refine xc_cond_t rfl ?_
                        refine xc_seq ?_
                        refine xc_region ?_
                        refine xl_pure rfl rfl rfl (pv_assign (v := .int _ _) rfl rfl) ?_
                        refine xl_pure rfl rfl rfl (pv_assign (v := .int _ _) rfl rfl) ?_
                        refine xl_nil ?_
                        refine xthen_normal ?_
                        refine xc_ret ?_
                        refine xblock_ret ?_
                        refine xthen_ret ?_
                        refine fin_ret (res2 (v := .int _ _) (x := .int _ _) rfl rfl rfl) ?_
                        have hk := tkE_iff (d := d)
                        exact ⟨tup2i (by unfold neeN neeE; repeat' (first | omega | split)) (by unfold neeE; repeat' (first | omega | split)), rfl⟩
                      · skip
                        refine xl_pure rfl rfl rfl (pv_assign (v := .bool _) rfl rfl) ?_
                        refine xl_nil ?_
                        refine xthen_normal ?_
                        refine xc_cond_f rfl ?_
                        refine xc_seq ?_
                        refine xc_seq ?_
                        refine xc_region ?_
                        refine xl_dec rfl rfl rfl (pv_eql rfl rfl rfl) (fun h19_0 => ?_) (fun h19_0 => ?_)
                        · skip
                          refine xl_pure rfl rfl rfl (pv_assign (v := .bool _) rfl rfl) ?_
                          refine xl_nil ?_
                          refine xthen_normal ?_
                          refine xc_cond_t rfl ?_
                          refine xc_skip ?_
                          refine xthen_normal ?_
                          refine xc_cond_t rfl ?_
                          refine xc_seq ?_
                          refine xc_region ?_
                          refine xl_pure rfl rfl rfl (pv_move (v := .int _ _) rfl rfl) ?_
                          refine xl_pure rfl rfl rfl (pv_add rfl rfl rfl (fit_i64 (by omega))) ?_
                          refine xl_pure rfl rfl rfl (pv_assign (v := .int _ _) rfl rfl) ?_
                          refine xl_pure rfl rfl rfl (pv_assign (v := .int _ _) rfl rfl) ?_
                          refine xl_nil ?_
                          refine xthen_normal ?_
                          refine xc_ret ?_
                          refine xblock_ret ?_
                          refine xthen_ret ?_
                          refine fin_ret (res2 (v := .int _ _) (x := .int _ _) rfl rfl rfl) ?_
                          have hk := tkE_iff (d := d)
                          exact ⟨tup2i (by unfold neeN neeE; repeat' (first | omega | split)) (by unfold neeE; repeat' (first | omega | split)), rfl⟩
                        · skip
                          refine xl_pure rfl rfl rfl (pv_assign (v := .bool _) rfl rfl) ?_
                          refine xl_nil ?_
                          refine xthen_normal ?_
                          refine xc_cond_f rfl ?_
                          refine xc_region ?_
                          refine xl_dec rfl rfl rfl (pv_eql rfl rfl rfl) (fun h20_0 => ?_) (fun h20_0 => ?_)
                          · skip
                            refine xl_pure rfl rfl rfl (pv_assign (v := .bool _) rfl rfl) ?_
                            refine xl_nil ?_
                            refine xthen_normal ?_
                            refine xc_cond_t rfl ?_
                            refine xc_seq ?_
                            refine xc_region ?_
                            refine xl_pure rfl rfl rfl (pv_move (v := .int _ _) rfl rfl) ?_
                            refine xl_pure rfl rfl rfl (pv_add rfl rfl rfl (fit_i64 (by omega))) ?_
                            refine xl_pure rfl rfl rfl (pv_assign (v := .int _ _) rfl rfl) ?_
                            refine xl_pure rfl rfl rfl (pv_assign (v := .int _ _) rfl rfl) ?_
                            refine xl_nil ?_
                            refine xthen_normal ?_
                            refine xc_ret ?_
                            refine xblock_ret ?_
                            refine xthen_ret ?_
                            refine fin_ret (res2 (v := .int _ _) (x := .int _ _) rfl rfl rfl) ?_
                            have hk := tkE_iff (d := d)
                            exact ⟨tup2i (by unfold neeN neeE; repeat' (first | omega | split)) (by unfold neeE; repeat' (first | omega | split)), rfl⟩
                          · skip
                            refine xl_pure rfl rfl rfl (pv_assign (v := .bool _) rfl rfl) ?_
                            refine xl_nil ?_
                            refine xthen_normal ?_
                            refine xc_cond_f rfl ?_
                            refine xc_seq ?_
                            refine xc_seq ?_
                            refine xc_region ?_
                            refine xl_dec rfl rfl rfl (pv_eql rfl rfl rfl) (fun h22_0 => ?_) (fun h22_0 => ?_)
                            · skip
                              refine xl_pure rfl rfl rfl (pv_assign (v := .bool _) rfl rfl) ?_
                              refine xl_nil ?_
                              refine xthen_normal ?_
                              refine xc_cond_t rfl ?_
                              refine xc_skip ?_
                              refine xthen_normal ?_
                              refine xc_cond_t rfl ?_
                              refine xc_seq ?_
                              refine xc_region ?_
                              refine xl_pure rfl rfl rfl (pv_assign (v := .int _ _) rfl rfl) ?_
                              refine xl_pure rfl rfl rfl (pv_assign (v := .int _ _) rfl rfl) ?_
                              refine xl_nil ?_
                              refine xthen_normal ?_
                              refine xc_ret ?_
                              refine xblock_ret ?_
                              refine xthen_ret ?_
                              refine fin_ret (res2 (v := .int _ _) (x := .int _ _) rfl rfl rfl) ?_
                              have hk := tkE_iff (d := d)
                              exact ⟨tup2i (by unfold neeN neeE; repeat' (first | omega | split)) (by unfold neeE; repeat' (first | omega | split)), rfl⟩
                            · skip
                              refine xl_pure rfl rfl rfl (pv_assign (v := .bool _) rfl rfl) ?_
                              refine xl_nil ?_
                              refine xthen_normal ?_
                              refine xc_cond_f rfl ?_
                              refine xc_seq ?_
                              refine xc_region ?_
                              refine xl_dec rfl rfl rfl (pv_eql rfl rfl rfl) (fun h23_0 => ?_) (fun h23_0 => ?_)
                              · skip
                                refine xl_pure rfl rfl rfl (pv_assign (v := .bool _) rfl rfl) ?_
                                refine xl_nil ?_
                                refine xthen_normal ?_
                                refine xc_cond_t rfl ?_
                                refine xc_skip ?_
                                refine xthen_normal ?_
                                refine xc_cond_t rfl ?_
                                refine xc_seq ?_
                                refine xc_region ?_
                                refine xl_pure rfl rfl rfl (pv_assign (v := .int _ _) rfl rfl) ?_
                                refine xl_pure rfl rfl rfl (pv_assign (v := .int _ _) rfl rfl) ?_
                                refine xl_nil ?_
                                refine xthen_normal ?_
                                refine xc_ret ?_
                                refine xblock_ret ?_
                                refine xthen_ret ?_
                                refine fin_ret (res2 (v := .int _ _) (x := .int _ _) rfl rfl rfl) ?_
                                have hk := tkE_iff (d := d)
                                exact ⟨tup2i (by unfold neeN neeE; repeat' (first | omega | split)) (by unfold neeE; repeat' (first | omega | split)), rfl⟩
                              · skip
                                refine xl_pure rfl rfl rfl (pv_assign (v := .bool _) rfl rfl) ?_
                                refine xl_nil ?_
                                refine xthen_normal ?_
                                refine xc_cond_f rfl ?_
                                refine xc_seq ?_
                                refine xc_region ?_
                                refine xl_dec rfl rfl rfl (pv_eql rfl rfl rfl) (fun h24_0 => ?_) (fun h24_0 => ?_)
                                · skip
                                  refine xl_pure rfl rfl rfl (pv_assign (v := .bool _) rfl rfl) ?_
                                  refine xl_nil ?_
                                  refine xthen_normal ?_
                                  refine xc_cond_t rfl ?_
                                  refine xc_skip ?_
                                  refine xthen_normal ?_
                                  refine xc_cond_t rfl ?_
                                  refine xc_seq ?_
                                  refine xc_region ?_
                                  refine xl_pure rfl rfl rfl (pv_assign (v := .int _ _) rfl rfl) ?_
                                  refine xl_pure rfl rfl rfl (pv_assign (v := .int _ _) rfl rfl) ?_
                                  refine xl_nil ?_
                                  refine xthen_normal ?_
                                  refine xc_ret ?_
                                  refine xblock_ret ?_
                                  refine xthen_ret ?_
                                  refine fin_ret (res2 (v := .int _ _) (x := .int _ _) rfl rfl rfl) ?_
                                  have hk := tkE_iff (d := d)
                                  exact ⟨tup2i (by unfold neeN neeE; repeat' (first | omega | split)) (by unfold neeE; repeat' (first | omega | split)), rfl⟩
                                · skip
                                  refine xl_pure rfl rfl rfl (pv_assign (v := .bool _) rfl rfl) ?_
                                  refine xl_nil ?_
                                  refine xthen_normal ?_
                                  refine xc_cond_f rfl ?_
                                  refine xc_region ?_
                                  refine xl_dec rfl rfl rfl (pv_eql rfl rfl rfl) (fun h25_0 => ?_) (fun h25_0 => ?_)
                                  · skip
                                    refine xl_pure rfl rfl rfl (pv_assign (v := .bool _) rfl rfl) ?_
                                    refine xl_nil ?_
                                    refine xthen_normal ?_
                                    refine xc_cond_t rfl ?_
                                    refine xc_seq ?_
                                    refine xc_region ?_
                                    refine xl_pure rfl rfl rfl (pv_assign (v := .int _ _) rfl rfl) ?_
                                    refine xl_pure rfl rfl rfl (pv_assign (v := .int _ _) rfl rfl) ?_
                                    refine xl_nil ?_
                                    refine xthen_normal ?_
                                    refine xc_ret ?_
                                    refine xblock_ret ?_
                                    refine xthen_ret ?_
                                    refine fin_ret (res2 (v := .int _ _) (x := .int _ _) rfl rfl rfl) ?_
                                    have hk := tkE_iff (d := d)
                                    exact ⟨tup2i (by unfold neeN neeE; repeat' (first | omega | split)) (by unfold neeE; repeat' (first | omega | split)), rfl⟩
                                  · skip
                                    refine xl_pure rfl rfl rfl (pv_assign (v := .bool _) rfl rfl) ?_
                                    refine xl_nil ?_
                                    refine xthen_normal ?_
                                    refine xc_cond_f rfl ?_
                                    refine xc_skip ?_
                                    refine xblock_normal ?_
                                    refine xthen_normal ?_
                                    refine xc_seq ?_
                                    refine xc_region ?_
                                    refine xl_pure rfl rfl rfl (pv_assign (v := .int _ _) rfl rfl) ?_
                                    refine xl_pure rfl rfl rfl (pv_assign (v := .int _ _) rfl rfl) ?_
                                    refine xl_nil ?_
                                    refine xthen_normal ?_
                                    refine xc_ret ?_
                                    refine fin_ret (res2 (v := .int _ _) (x := .int _ _) rfl rfl rfl) ?_
                                    have hk := tkE_iff (d := d)
                                    exact ⟨tup2i (by unfold neeN neeE; repeat' (first | omega | split)) (by unfold neeE; repeat' (first | omega | split)), rfl⟩
end Go.XG
