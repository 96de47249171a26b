/-
  What the laws are given, opened. Printed by a program.
-/
import Derived.Test.YtjlhjjjhblcokaaXy
import Derived.Test.YtjlhjjjhblcokaaI
import Derived.Test.YtjlhjjjhblcokaaKw
namespace Go.XG
open Go.Proofs Go.ChangeShapes Go.WideShapes Go.RowKit
instance : Flat Try.prog 3 1 := Flat.int Try.underlying3 (by kernel_rfl)
instance : Flat Try.prog 122 2 := Flat.struct Try.underlying122 (.cons rfl (inferInstance : Flat Try.prog 3 1) (.cons rfl (inferInstance : Flat Try.prog 3 1) (.nil _))) (by kernel_rfl)
instance : Flat Try.prog 96 3 := Flat.struct Try.underlying96 (.cons rfl (inferInstance : Flat Try.prog 3 1) (.cons rfl (inferInstance : Flat Try.prog 3 1) (.cons rfl (inferInstance : Flat Try.prog 3 1) (.nil _)))) (by kernel_rfl)
theorem of1 {ns : List Int} (h : ns.length = 1) : ∃ x0, ns = [x0] := by
  match ns, h with
  | [x0], _ => exact ⟨_, rfl⟩
section
variable {Hd : Type} {enc : TypeId × Value → Hd} {W : World} {a : Option Addr} {n m : Nat} {d : DataW Hd} {p : List MemPlace}
theorem cells64 : Try.prog.cellsOf 64 = 5 := by kernel_rfl
theorem cells62 : Try.prog.cellsOf 62 = 1 := by kernel_rfl
theorem cells3 : Try.prog.cellsOf 3 = 1 := by kernel_rfl
theorem cells4 : Try.prog.cellsOf 4 = 1 := by kernel_rfl
open Pu in
theorem pact_cells {cs : List Value} {b : Bool} {f i k : Int} {l : List (List Int)} {sa : Option Addr} {sc : Nat} (hl : cs.length = 5) (e0 : (cs.drop 0).take 1 = [.bool b]) (e1 : (cs.drop 1).take 1 = [.int .i64 f])
    (e2 : (cs.drop 2).take 1 = [.int .i64 i]) (e3 : (cs.drop 3).take 1 = [.int .i64 k]) (e4 : (cs.drop 4).take 1 = [.slice sa l.length sc]) : cs = pcs ⟨b, f, i, k, l, sa, sc⟩ := by
  match cs, hl with
  | [c0, c1, c2, c3, c4], _ =>
    simp at e0 e1 e2 e3 e4
    subst e0 e1 e2 e3 e4
    rfl
open Pu in
theorem open_pact0 {fuel : Nat} {cs : List Value} {y : DataW Hd × List MemPlace} (h : DataW.trod enc Try.prog W 0 (fun _ => true) true fuel 64 cs = some y) : ∃ r : PAct, cs = pcs r ∧ Rows W.heap r.pa 3 r.P := by
  obtain ⟨xs, n', _, _, hl, hxl, hf⟩ := DataW.trod_struct Try.underlying64 h
  rw [cells64] at hl
  have gs : ∀ i (hi : i < 5), xs[i]? = some (xs[i]'(by rw [hxl]; exact hi)) := fun i hi => List.getElem?_eq_getElem _
  have h0 : DataW.trod enc Try.prog W 0 (fun _ => true) true n' 4 ((cs.drop 0).take (Try.prog.cellsOf 4)) = some _ := (hf 0 _ rfl).trans (gs 0 (by omega))
  have h1 : DataW.trod enc Try.prog W 0 (fun _ => true) true n' 3 ((cs.drop 1).take (Try.prog.cellsOf 3)) = some _ := (hf 1 _ rfl).trans (gs 1 (by omega))
  have h2 : DataW.trod enc Try.prog W 0 (fun _ => true) true n' 3 ((cs.drop 2).take (Try.prog.cellsOf 3)) = some _ := (hf 2 _ rfl).trans (gs 2 (by omega))
  have h3 : DataW.trod enc Try.prog W 0 (fun _ => true) true n' 3 ((cs.drop 3).take (Try.prog.cellsOf 3)) = some _ := (hf 3 _ rfl).trans (gs 3 (by omega))
  have h4 : DataW.trod enc Try.prog W 0 (fun _ => true) true n' 62 ((cs.drop 4).take (Try.prog.cellsOf 62)) = some _ := (hf 4 _ rfl).trans (gs 4 (by omega))
  rw [cells4] at h0
  rw [cells3] at h1 h2 h3
  rw [cells62] at h4
  obtain ⟨b, e0, _⟩ := DataW.trod_bool Try.underlying4 h0
  obtain ⟨f, e1, _⟩ := DataW.trod_int Try.underlying3 h1
  obtain ⟨i, e2, _⟩ := DataW.trod_int Try.underlying3 h2
  obtain ⟨k, e3, _⟩ := DataW.trod_int Try.underlying3 h3
  obtain ⟨sa, sn, sc, e4⟩ := slice_form Try.underlying62 h4
  rw [e4] at h4
  obtain ⟨l4, rfl, hs4, _, _⟩ := slice_flat (k := 3) Try.underlying62 (by omega) (a := sa) (n := sn) (m := sc) (d := _) (p := _) ⟨n', h4⟩
  exact ⟨⟨b, f, i, k, l4, sa, sc⟩, pact_cells hl e0 e1 e2 e3 e4, hs4⟩
open Pu in
theorem slice_pacts (h : DataW.Trod enc Try.prog W 0 (fun _ => true) true 56 (.slice a n m) d p) : ∃ A : List PAct, n = A.length ∧ PActs W.heap a A := by
  obtain ⟨hnm, hm, h0 | ⟨b, off, rfl, hi⟩⟩ := slice_cells Try.underlying56 cells64 (by omega) h
  · subst h0; exact ⟨[], rfl, .inl rfl⟩
  · obtain ⟨l, hl, hx⟩ := collect (default : PAct) (R := fun i r => Row W.heap b (off + i * 5) (pcs r) ∧ Rows W.heap r.pa 3 r.P) n (fun i hin => by
      obtain ⟨cs, fuel, y, h1, h2, h3⟩ := hi i hin
      obtain ⟨r, rfl, g2⟩ := open_pact0 h3
      exact ⟨r, h2, g2⟩)
    subst hl
    exact ⟨l, rfl, .inr ⟨b, off, rfl, fun i hi => hx i hi⟩⟩
end
end Go.XG
