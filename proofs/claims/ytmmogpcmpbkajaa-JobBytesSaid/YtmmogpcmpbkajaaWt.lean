/-
  Walks of the seat's functions over the logic XG: each function, what it computes. Printed by a program out of wip/walks.py.
-/
import Derived.Test.YtmmogpcmpbkajaaI
import Derived.Test.YtmmogpcmpbkajaaP
import Derived.Test.YtmmogpcmpbkajaaL
import Derived.Test.YtmmogpcmpbkajaaWa
import Derived.Test.YtmmogpcmpbkajaaWb
import Derived.Test.YtmmogpcmpbkajaaWc
import Derived.Test.YtmmogpcmpbkajaaWd
import Derived.Test.YtmmogpcmpbkajaaWe
import Derived.Test.YtmmogpcmpbkajaaWf
import Derived.Test.YtmmogpcmpbkajaaWg
import Derived.Test.YtmmogpcmpbkajaaWh
import Derived.Test.YtmmogpcmpbkajaaLn
import Derived.Test.YtmmogpcmpbkajaaNa
import Derived.Test.YtmmogpcmpbkajaaNb
import Derived.Test.YtmmogpcmpbkajaaNc
import Derived.Test.YtmmogpcmpbkajaaNd
import Derived.Test.YtmmogpcmpbkajaaNf
import Derived.Test.YtmmogpcmpbkajaaNg
import Derived.Test.YtmmogpcmpbkajaaXk
import Derived.Test.YtmmogpcmpbkajaaB6
import Derived.Test.YtmmogpcmpbkajaaWr
import Derived.Test.YtmmogpcmpbkajaaWs
namespace Go.XG
open Go.Proofs Go.Pen
set_option maxRecDepth 4000
set_option maxHeartbeats 4000000
theorem c39 {O : Outer} {H : Heap} {bp rd : Nat} {l : List UInt8} {bad : Bool} (mr : Blk H rd [.string (bs l), .bool bad, .bool true] 71) (mp : Blk H bp [.pointer (some ⟨rd, 0, none⟩)] 56) (nmp_mr : Apart bp rd) :
    FnC Try.prog 39 #[.pointer (some ⟨bp, 0, none⟩)] O H (fun v H' => ∃ n l' bad', uintS 9223372036854775807 (l, bad) = (n, (l', bad')) ∧ n < 9223372036854775808 ∧ v = .int .i64 (n : Nat) ∧ Upd H H' rd [.string (bs l'), .bool bad', .bool true] 71) := by
  refine fn_enter (A := [.pointer (some ⟨bp, 0, none⟩)]) Try.func39 rfl rfl ?_
  have hX := But.refl rd H
  refine xc_seq ?_
  refine xc_region ?_
  refine xl_pure rfl rfl rfl (pv_assign (v := .int _ _) rfl rfl) ?_
  refine xl_nil ?_
  refine xthen_normal ?_
  refine xc_seq ?_
  refine xc_region ?_
  refine xl_light rfl rfl rfl (lv_load (v := .pointer _) rfl rfl (ld_blk mp rfl)) ?_
  refine xl_heavy rfl rfl rfl (hv_call (g := 40) rfl rfl (p15 mr (9223372036854775807)) rfl) ?_
  rintro v1_1 H1_1 ⟨n1_1, l1_1, bad1_1, hw1_1, hn1_1, rfl, hU1_1⟩
  have mp := mp.off hU1_1.but (nmp_mr)
  have hX := hX.trans hU1_1.but
  have mr := hU1_1.blk
  refine xl_pure rfl rfl rfl (pv_assign (v := .int _ _) rfl rfl) ?_
  refine xl_nil ?_
  refine xthen_normal ?_
  refine xc_ret ?_
  refine fin_ret (res1 (v := .int _ _) rfl rfl) ?_
  exact ⟨_, _, _, hw1_1, hn1_1, rfl, hX, mr⟩
end Go.XG
