/-
  What the laws are given, opened. Printed by a program.
-/
import Derived.Test.YtdpgbnflielagaaXy
import Derived.Test.YtdpgbnflielagaaI
import Derived.Test.YtdpgbnflielagaaM
namespace Go.XG
open Go.Proofs Go.ChangeShapes Go.WideShapes Go.RowKit
section
variable {Hd : Type} {enc : TypeId × Value → Hd} {W : World} {a : Option Addr} {n m : Nat} {d : DataW Hd} {p : List MemPlace}
theorem cells5 : Try.prog.cellsOf 5 = 1 := by kernel_rfl
theorem slice_u8 (h : DataW.Trod enc Try.prog W 0 (fun _ => true) true 22 (.slice a n m) d p) :
    ∃ xs : List Int, n = xs.length ∧ (xs.length = 0 ∨ ∃ b off, a = some ⟨b, off, none⟩ ∧ ∀ k, k < xs.length → cellAt W.heap b (off + k * 1) = some (.int .u8 (xs.getD k 0))) ∧
      ∀ k, k < xs.length → 0 ≤ xs.getD k 0 ∧ xs.getD k 0 < 256 := by
  obtain ⟨_, _, h0 | ⟨b, off, rfl, hi⟩⟩ := slice_cells Try.underlying22 cells5 (by omega) h
  · subst h0; exact ⟨[], rfl, .inl rfl, fun k hk => absurd hk (Nat.not_lt_zero k)⟩
  · obtain ⟨xs, hl, hx⟩ := collect (0 : Int) (R := fun i x => cellAt W.heap b (off + i * 1) = some (.int .u8 x) ∧ 0 ≤ x ∧ x < 256) n (fun i hin => by
      obtain ⟨cs, fuel, y, h1, h2, h3⟩ := hi i hin
      obtain ⟨x, rfl, _, hw⟩ := DataW.trod_int Try.underlying5 h3
      have hb := bounds_u8 hw
      exact ⟨x, h2 0 _ rfl, hb.1, by omega⟩)
    subst hl
    exact ⟨xs, rfl, .inr ⟨b, off, rfl, fun k hk => (hx k hk).1⟩, fun k hk => (hx k hk).2⟩
end
end Go.XG
