/-
  What the laws are given, opened. Printed by a program.
-/
import Derived.Test.YtjlhjjjhblcokaaXy
import Derived.Test.YtjlhjjjhblcokaaI
import Derived.Test.YtjlhjjjhblcokaaKx
namespace Go.XG
open Go.Proofs Go.ChangeShapes Go.WideShapes Go.RowKit
instance : Flat Try.prog 3 1 := Flat.int Try.underlying3 (by kernel_rfl)
instance : Flat Try.prog 37 4 := Flat.struct Try.underlying37 (.cons rfl (inferInstance : Flat Try.prog 3 1) (.cons rfl (inferInstance : Flat Try.prog 3 1) (.cons rfl (inferInstance : Flat Try.prog 3 1) (.cons rfl (inferInstance : Flat Try.prog 3 1) (.nil _))))) (by kernel_rfl)
instance : Flat Try.prog 90 2 := Flat.struct Try.underlying90 (.cons rfl (inferInstance : Flat Try.prog 3 1) (.cons rfl (inferInstance : Flat Try.prog 3 1) (.nil _))) (by kernel_rfl)
instance : Flat Try.prog 99 5 := Flat.struct Try.underlying99 (.cons rfl (inferInstance : Flat Try.prog 37 4) (.cons rfl (inferInstance : Flat Try.prog 3 1) (.nil _))) (by kernel_rfl)
theorem of4 {ns : List Int} (h : ns.length = 4) : ∃ x0 x1 x2 x3, ns = [x0, x1, x2, x3] := by
  match ns, h with
  | [x0, x1, x2, x3], _ => exact ⟨_, _, _, _, rfl⟩
theorem of1 {ns : List Int} (h : ns.length = 1) : ∃ x0, ns = [x0] := by
  match ns, h with
  | [x0], _ => exact ⟨_, rfl⟩
section
variable {Hd : Type} {enc : TypeId × Value → Hd} {W : World} {a : Option Addr} {n m : Nat} {d : DataW Hd} {p : List MemPlace}
theorem open_stks (h : DataW.Trod enc Try.prog W 0 (fun _ => true) true 38 (.slice a n m) d p) : ∃ l : List Stack, n = l.length ∧ Stks W.heap a l := by
  obtain ⟨l, rfl, h1, _⟩ := slice_flat (k := 2) Try.underlying38 (by omega) h
  obtain ⟨s, h2, h3⟩ := rows_stks h1
  exact ⟨s, h2.symm, h3⟩
theorem cells40 : Try.prog.cellsOf 40 = 9 := by kernel_rfl
theorem cells38 : Try.prog.cellsOf 38 = 1 := by kernel_rfl
theorem cells37 : Try.prog.cellsOf 37 = 4 := by kernel_rfl
theorem cells3 : Try.prog.cellsOf 3 = 1 := by kernel_rfl
theorem vact_cells {cs : List Value} {k w i q x0 x1 x2 x3 : Int} {l : List Stack} {sa : Option Addr} {sc : Nat} (hl : cs.length = 9) (e0 : (cs.drop 0).take 1 = [.int .i64 k]) (e1 : (cs.drop 1).take 1 = [.int .i64 w])
    (e2 : (cs.drop 2).take 1 = [.int .i64 i]) (e3 : (cs.drop 3).take 1 = [.int .i64 q]) (e4 : (cs.drop 4).take 4 = ints [x0, x1, x2, x3]) (e5 : (cs.drop 8).take 1 = [.slice sa l.length sc]) : cs = vcs ⟨k, w, i, q, x0, x1, x2, x3, l, sa, sc⟩ := by
  match cs, hl with
  | [c0, c1, c2, c3, c4, c5, c6, c7, c8], _ =>
    simp [ints] at e0 e1 e2 e3 e4 e5
    obtain ⟨rfl, rfl, rfl, rfl⟩ := e4
    subst e0 e1 e2 e3 e5
    rfl
theorem open_vact0 {fuel : Nat} {cs : List Value} {y : DataW Hd × List MemPlace} (h : DataW.trod enc Try.prog W 0 (fun _ => true) true fuel 40 cs = some y) : ∃ r : VAct, cs = vcs r ∧ Stks W.heap r.sa r.s := by
  obtain ⟨xs, n', _, _, hl, hxl, hf⟩ := DataW.trod_struct Try.underlying40 h
  rw [cells40] at hl
  have gs : ∀ i (hi : i < 6), xs[i]? = some (xs[i]'(by rw [hxl]; exact hi)) := fun i hi => List.getElem?_eq_getElem _
  have h0 : DataW.trod enc Try.prog W 0 (fun _ => true) true n' 3 ((cs.drop 0).take (Try.prog.cellsOf 3)) = some _ := (hf 0 _ rfl).trans (gs 0 (by omega))
  have h1 : DataW.trod enc Try.prog W 0 (fun _ => true) true n' 3 ((cs.drop 1).take (Try.prog.cellsOf 3)) = some _ := (hf 1 _ rfl).trans (gs 1 (by omega))
  have h2 : DataW.trod enc Try.prog W 0 (fun _ => true) true n' 3 ((cs.drop 2).take (Try.prog.cellsOf 3)) = some _ := (hf 2 _ rfl).trans (gs 2 (by omega))
  have h3 : DataW.trod enc Try.prog W 0 (fun _ => true) true n' 3 ((cs.drop 3).take (Try.prog.cellsOf 3)) = some _ := (hf 3 _ rfl).trans (gs 3 (by omega))
  have h4 : DataW.trod enc Try.prog W 0 (fun _ => true) true n' 37 ((cs.drop 4).take (Try.prog.cellsOf 37)) = some _ := (hf 4 _ rfl).trans (gs 4 (by omega))
  have h5 : DataW.trod enc Try.prog W 0 (fun _ => true) true n' 38 ((cs.drop 8).take (Try.prog.cellsOf 38)) = some _ := (hf 5 _ rfl).trans (gs 5 (by omega))
  rw [cells3] at h0 h1 h2 h3
  rw [cells37] at h4
  rw [cells38] at h5
  obtain ⟨k, e0, _⟩ := DataW.trod_int Try.underlying3 h0
  obtain ⟨w, e1, _⟩ := DataW.trod_int Try.underlying3 h1
  obtain ⟨i, e2, _⟩ := DataW.trod_int Try.underlying3 h2
  obtain ⟨q, e3, _⟩ := DataW.trod_int Try.underlying3 h3
  obtain ⟨q4, e4, l4, _⟩ := (inferInstance : Flat Try.prog 37 4).h h4
  obtain ⟨x0, x1, x2, x3, rfl⟩ := of4 l4
  obtain ⟨sa, sn, sc, e5⟩ := slice_form Try.underlying38 h5
  rw [e5] at h5
  obtain ⟨l5, rfl, hs5⟩ := open_stks (a := sa) (n := sn) (m := sc) (d := _) (p := _) ⟨n', h5⟩
  exact ⟨⟨k, w, i, q, x0, x1, x2, x3, l5, sa, sc⟩, vact_cells hl e0 e1 e2 e3 e4 e5, hs5⟩
theorem slice_vacts (h : DataW.Trod enc Try.prog W 0 (fun _ => true) true 30 (.slice a n m) d p) : ∃ A : List VAct, n = A.length ∧ VActs W.heap a A := by
  obtain ⟨hnm, hm, h0 | ⟨b, off, rfl, hi⟩⟩ := slice_cells Try.underlying30 cells40 (by omega) h
  · subst h0; exact ⟨[], rfl, .inl rfl⟩
  · obtain ⟨l, hl, hx⟩ := collect (default : VAct) (R := fun i r => Row W.heap b (off + i * 9) (vcs r) ∧ Stks W.heap r.sa r.s) n (fun i hin => by
      obtain ⟨cs, fuel, y, h1, h2, h3⟩ := hi i hin
      obtain ⟨r, rfl, g2⟩ := open_vact0 h3
      exact ⟨r, h2, g2⟩)
    subst hl
    exact ⟨l, rfl, .inr ⟨b, off, rfl, fun i hi => hx i hi⟩⟩
end
end Go.XG
