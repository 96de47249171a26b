/-
  What the laws are given, opened. Printed by a program.
-/
import Derived.Test.YtbcbgjikgilpcaaXy
import Derived.Test.YtbcbgjikgilpcaaI
import Derived.Test.YtbcbgjikgilpcaaM
namespace Go.XG
open Go.Proofs Go.ChangeShapes Go.WideShapes Go.RowKit
instance : Flat Try.prog 3 1 := Flat.int Try.underlying3 (by kernel_rfl)
instance : Flat Try.prog 56 2 := Flat.struct Try.underlying56 (.cons rfl (inferInstance : Flat Try.prog 3 1) (.cons rfl (inferInstance : Flat Try.prog 3 1) (.nil _))) (by kernel_rfl)
instance : Flat Try.prog 28 4 := Flat.array (m := 4) (k := 1) Try.underlying28 inferInstance (by kernel_rfl)
theorem of4 {ns : List Int} (h : ns.length = 4) : ∃ x0 x1 x2 x3, ns = [x0, x1, x2, x3] := by
  match ns, h with
  | [x0, x1, x2, x3], _ => exact ⟨_, _, _, _, rfl⟩
section
variable {Hd : Type} {enc : TypeId × Value → Hd} {W : World} {a : Option Addr} {n m : Nat} {d : DataW Hd} {p : List MemPlace}
theorem cellsG : Try.prog.cellsOf 54 = 2 := by kernel_rfl
theorem cellsM : Try.prog.cellsOf 52 = 1 := by kernel_rfl
theorem cells3 : Try.prog.cellsOf 3 = 1 := by kernel_rfl
theorem open_guild {fuel : Nat} {cs : List Value} {y : DataW Hd × List MemPlace} (h : DataW.trod enc Try.prog W 0 (fun _ => true) true fuel 54 cs = some y) : ∃ (e : Int × List (List Int)) (a : Option Addr) (c : Nat), cs = [.int .i64 e.1, .slice a e.2.length c] ∧ Rows W.heap a 2 e.2 := by
  obtain ⟨xs, n', _, _, hl, hxl, hf⟩ := DataW.trod_struct Try.underlying54 h
  rw [cellsG] at hl
  have gs : ∀ i (hi : i < 2), xs[i]? = some (xs[i]'(by rw [hxl]; exact hi)) := fun i hi => List.getElem?_eq_getElem _
  have h0 : DataW.trod enc Try.prog W 0 (fun _ => true) true n' 3 ((cs.drop 0).take (Try.prog.cellsOf 3)) = some _ := (hf 0 _ rfl).trans (gs 0 (by omega))
  have h1 : DataW.trod enc Try.prog W 0 (fun _ => true) true n' 52 ((cs.drop 1).take (Try.prog.cellsOf 52)) = some _ := (hf 1 _ rfl).trans (gs 1 (by omega))
  rw [cells3] at h0
  rw [cellsM] at h1
  obtain ⟨k0, e0, i0⟩ := DataW.trod_int Try.underlying3 h0
  obtain ⟨sa, sn, sc, e1⟩ := slice_form Try.underlying52 h1
  rw [e1] at h1
  obtain ⟨l, rfl, hr, _⟩ := slice_flat (k := 2) (a := sa) (n := sn) (m := sc) (d := _) (p := _) Try.underlying52 (by omega) ⟨n', h1⟩
  refine ⟨(k0, l), sa, sc, ?_, hr⟩
  match cs, hl with
  | [c0, c1], _ =>
    simp at e0 e1
    rw [e0, e1]
theorem slice_guilds (h : DataW.Trod enc Try.prog W 0 (fun _ => true) true 27 (.slice a n m) d p) : ∃ D : List (Int × List (List Int)), n = D.length ∧ n ≤ m ∧ ∀ B, W.heap.size ≤ B → DK W.heap B a D := by
  obtain ⟨hnm, hm, h0 | ⟨b, off, rfl, hi⟩⟩ := slice_cells Try.underlying27 cellsG (by omega) h
  · subst h0; exact ⟨[], rfl, hnm, fun B _ => .inl rfl⟩
  · obtain ⟨D, hl, hx⟩ := collect ((0, []) : Int × List (List Int)) (R := fun i e => ∃ ai ci, Row W.heap b (off + i * 2) [.int .i64 e.1, .slice ai e.2.length ci] ∧ Rows W.heap ai 2 e.2) n (fun i hin => by
      obtain ⟨cs, fuel, y, h1, h2, h3⟩ := hi i hin
      obtain ⟨e, ai, ci, rfl, g2⟩ := open_guild h3
      exact ⟨e, ai, ci, h2, g2⟩)
    refine ⟨D, hl.symm, hnm, fun B hB => ?_⟩
    by_cases hn : D.length = 0
    · exact .inl (List.length_eq_zero_iff.1 hn)
    · refine .inr ⟨b, off, rfl, ?_, fun i hi => ?_⟩
      · obtain ⟨ai, ci, h1, _⟩ := hx 0 (by omega)
        have := cellAt_lt (h1 0 _ rfl)
        exact ⟨.inl (by omega), this⟩
      · obtain ⟨ai, ci, h1, h2⟩ := hx i (by omega)
        exact ⟨ai, ci, h1, rowsB_new h2 hB⟩
end
section
variable {Hd : Type} {enc : TypeId × Value → Hd} {W : World} {d : DataW Hd} {p : List MemPlace} {v : Value}
theorem cells5 : Try.prog.cellsOf 5 = 1 := by kernel_rfl
theorem cells44 : Try.prog.cellsOf 44 = 2 := by kernel_rfl
theorem open_b2 (h : DataW.Trod enc Try.prog W 0 (fun _ => true) true 44 v d p) : ∃ a b : Int, v = .agg #[.int .u8 a, .int .u8 b] ∧ (0 ≤ a ∧ a < 256) ∧ (0 ≤ b ∧ b < 256) := by
  obtain ⟨fuel, h⟩ := h
  obtain ⟨xs, q, _, _, hl, hxl, hf⟩ := DataW.trod_array Try.underlying44 h
  rw [cells44] at hl
  rw [cells5] at hf
  have h0 := hf 0 (by omega)
  have h1 := hf 1 (by omega)
  rw [List.getElem?_eq_getElem (by omega)] at h0 h1
  obtain ⟨a, e0, _, w0⟩ := DataW.trod_int Try.underlying5 h0
  obtain ⟨b, e1, _, w1⟩ := DataW.trod_int Try.underlying5 h1
  have b0 := bounds_u8 w0
  have b1 := bounds_u8 w1
  refine ⟨a, b, ?_, ⟨b0.1, by omega⟩, ⟨b1.1, by omega⟩⟩
  have hlen : v.cells.size = 2 := by simpa using hl
  have hc : v.cells.toList = [.int .u8 a, .int .u8 b] := by
    match hcs : v.cells.toList, hl with
    | [c0, c1], _ =>
      rw [hcs] at e0 e1
      simp at e0 e1
      rw [e0, e1]
  cases v <;> simp [Value.cells] at hc hlen <;> first | omega | skip
  rename_i cs
  rw [← hc]
end
end Go.XG
