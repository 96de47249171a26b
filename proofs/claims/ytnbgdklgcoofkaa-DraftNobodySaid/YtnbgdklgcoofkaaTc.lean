/-
  Walks of the seat's functions over the logic XG: each function, what it computes. Printed by a program out of wip/walks.py.
-/
import Derived.Test.YtnbgdklgcoofkaaI
import Derived.Test.YtnbgdklgcoofkaaTo
import Derived.Test.YtnbgdklgcoofkaaTa
import Derived.Test.YtnbgdklgcoofkaaTb
namespace Go.XG
open Go.Proofs
set_option maxRecDepth 4000
set_option maxHeartbeats 4000000
theorem c33 {O : Outer} {H : Heap} {bt t n c : Nat} {rest : List Value} {a : Option Addr} (mt : Blk H bt (.slice a n c :: rest) t) :
    FnC Try.prog 33 #[.pointer (some ⟨bt, 0, none⟩)] O H (fun v H' => v = .int .i64 (n : Nat) ∧ H = H') := by
  refine fn_enter (A := [.pointer (some ⟨bt, 0, none⟩)]) Try.func33 rfl rfl ?_
  have hX := Ext.refl H
  refine xc_seq ?_
  refine xc_region ?_
  refine xl_pure rfl rfl rfl (pv_assign (v := .int _ _) rfl rfl) ?_
  refine xl_nil ?_
  refine xthen_normal ?_
  refine xc_seq ?_
  refine xc_region ?_
  refine xl_pure rfl rfl rfl (pv_move (v := .pointer _) rfl rfl) ?_
  refine xl_heavy rfl rfl rfl (hv_call (g := 38) rfl rfl (c38 mt) rfl) ?_
  rintro v1_1 H1_1 ⟨rfl, rfl⟩
  refine xl_pure rfl rfl rfl (pv_len_l rfl rfl) ?_
  refine xl_pure rfl rfl rfl (pv_assign (v := .int _ _) rfl rfl) ?_
  refine xl_nil ?_
  refine xthen_normal ?_
  refine xc_ret ?_
  refine fin_ret (res1 (v := .int _ _) rfl rfl) ?_
  exact ⟨rfl, rfl⟩

theorem c33n {O : Outer} {H : Heap}  :
    FnC Try.prog 33 #[.pointer none] O H (fun v H' => v = .int .i64 0 ∧ H = H') := by
  refine fn_enter (A := [.pointer none]) Try.func33 rfl rfl ?_
  have hX := Ext.refl H
  refine xc_seq ?_
  refine xc_region ?_
  refine xl_pure rfl rfl rfl (pv_assign (v := .int _ _) rfl rfl) ?_
  refine xl_nil ?_
  refine xthen_normal ?_
  refine xc_seq ?_
  refine xc_region ?_
  refine xl_pure rfl rfl rfl (pv_move (v := .pointer _) rfl rfl) ?_
  refine xl_heavy rfl rfl rfl (hv_call (g := 38) rfl rfl (c38n) rfl) ?_
  rintro v1_1 H1_1 ⟨rfl, rfl⟩
  refine xl_pure rfl rfl rfl (pv_len_l rfl rfl) ?_
  refine xl_pure rfl rfl rfl (pv_assign (v := .int _ _) rfl rfl) ?_
  refine xl_nil ?_
  refine xthen_normal ?_
  refine xc_ret ?_
  refine fin_ret (res1 (v := .int _ _) rfl rfl) ?_
  exact ⟨rfl, rfl⟩
end Go.XG
