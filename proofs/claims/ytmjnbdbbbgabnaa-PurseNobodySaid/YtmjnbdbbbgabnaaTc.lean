/-
  Walks of the seat's functions over the logic XG: each function, what it computes. Printed by a program out of wip/walks.py.
-/
import Derived.Test.YtmjnbdbbbgabnaaI
import Derived.Test.YtmjnbdbbbgabnaaTm
import Derived.Test.YtmjnbdbbbgabnaaTa
import Derived.Test.YtmjnbdbbbgabnaaTb
import Derived.Test.YtmjnbdbbbgabnaaTd
namespace Go.XG
open Go.Proofs
set_option maxRecDepth 4000
set_option maxHeartbeats 4000000
theorem c32 {O : Outer} {H : Heap} {bt t n c : Nat} {rest : List Value} {a : Option Addr} (mt : Blk H bt (.slice a n c :: rest) t) :
    FnC Try.prog 32 #[.pointer (some ⟨bt, 0, none⟩)] O H (fun v H' => ∃ b, v = .pointer (some ⟨b, 0, none⟩) ∧ New H H' b [.slice a n c] 54) := by
  refine fn_enter (A := [.pointer (some ⟨bt, 0, none⟩)]) Try.func32 rfl rfl ?_
  have hX := Ext.refl H
  refine xc_seq ?_
  refine xc_region ?_
  refine xl_pure rfl rfl rfl (pv_assign (v := .pointer _) rfl rfl) ?_
  refine xl_nil ?_
  refine xthen_normal ?_
  refine xc_seq ?_
  refine xc_region ?_
  refine xl_pure rfl rfl rfl (pv_move (v := .pointer _) rfl rfl) ?_
  refine xl_heavy rfl rfl rfl (hv_call (g := 42) rfl rfl (c42 mt) rfl) ?_
  rintro v1_1 H1_1 ⟨rfl, rfl⟩
  refine xl_pure rfl rfl rfl (pv_build_s (cs := [.slice _ _ _]) rfl rfl rfl) ?_
  refine xl_heavy rfl rfl rfl (hv_box rfl rfl) ?_
  rintro v1_3 H1_3 ⟨b1_3, rfl, hN1_3⟩
  have gb1_3 := hX.fresh hN1_3
  have nmt_1_3 := mt.apart hN1_3
  have mt := mt.ext hN1_3.ext
  have hX := hX.trans hN1_3.ext
  have m1_3 := hN1_3.blk
  refine xl_pure rfl rfl rfl (pv_assign (v := .pointer _) rfl rfl) ?_
  refine xl_nil ?_
  refine xthen_normal ?_
  refine xc_ret ?_
  refine fin_ret (res1 (v := .pointer _) rfl rfl) ?_
  exact ⟨_, rfl, hN1_3⟩

theorem c32n {O : Outer} {H : Heap}  :
    FnC Try.prog 32 #[.pointer none] O H (fun v H' => ∃ b, v = .pointer (some ⟨b, 0, none⟩) ∧ New H H' b [.slice none 0 0] 54) := by
  refine fn_enter (A := [.pointer none]) Try.func32 rfl rfl ?_
  have hX := Ext.refl H
  refine xc_seq ?_
  refine xc_region ?_
  refine xl_pure rfl rfl rfl (pv_assign (v := .pointer _) rfl rfl) ?_
  refine xl_nil ?_
  refine xthen_normal ?_
  refine xc_seq ?_
  refine xc_region ?_
  refine xl_pure rfl rfl rfl (pv_move (v := .pointer _) rfl rfl) ?_
  refine xl_heavy rfl rfl rfl (hv_call (g := 42) rfl rfl (c42n) rfl) ?_
  rintro v1_1 H1_1 ⟨rfl, rfl⟩
  refine xl_pure rfl rfl rfl (pv_build_s (cs := [.slice _ _ _]) rfl rfl rfl) ?_
  refine xl_heavy rfl rfl rfl (hv_box rfl rfl) ?_
  rintro v1_3 H1_3 ⟨b1_3, rfl, hN1_3⟩
  have gb1_3 := hX.fresh hN1_3
  have hX := hX.trans hN1_3.ext
  have m1_3 := hN1_3.blk
  refine xl_pure rfl rfl rfl (pv_assign (v := .pointer _) rfl rfl) ?_
  refine xl_nil ?_
  refine xthen_normal ?_
  refine xc_ret ?_
  refine fin_ret (res1 (v := .pointer _) rfl rfl) ?_
  exact ⟨_, rfl, hN1_3⟩
end Go.XG
