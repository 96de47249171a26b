/-
  Walks of the seat's functions over the logic XG: each function, what it computes. Printed by a program out of wip/walks.py.
-/
import Derived.Test.YtdpgbnflielagaaI
import Derived.Test.YtdpgbnflielagaaN
import Derived.Test.YtdpgbnflielagaaWa
import Derived.Test.YtdpgbnflielagaaWb
import Derived.Test.YtdpgbnflielagaaWc
import Derived.Test.YtdpgbnflielagaaWd
import Derived.Test.YtdpgbnflielagaaWe
import Derived.Test.YtdpgbnflielagaaWf
import Derived.Test.YtdpgbnflielagaaWg
import Derived.Test.YtdpgbnflielagaaWh
import Derived.Test.YtdpgbnflielagaaWi
import Derived.Test.YtdpgbnflielagaaWj
namespace Go.XG
open Go.Proofs
set_option maxRecDepth 4000
set_option maxHeartbeats 4000000
section
variable {O : Outer} {H : Heap} {bp : Nat} {G : Nat → Prop} {S : List Sd} {f : Fn}
theorem askB (hb : BB H bp G S f) (hS : GSd S) (b o j : Int) : FnC Try.prog 9 #[.pointer (some ⟨bp, 0, none⟩), .int .i64 b, .int .i64 o, .int .i64 j] O H (fun v H' => v = .tuple #[.bool (askR S f b o j), .int .i64 (askE S f b o j)] ∧ BB H' bp (Gn G H H') (askS S f b o j) (askF S f b o j) ∧ KeepF G H H') := by
  obtain ⟨T, rfl, a, c, m, h1, h2, h3, h4, h5, h6, h7⟩ := hb
  exact ask h1 h2 h3 h4 h5 h6 h7 (gt_of hS) b o j
theorem leaveB (hb : BB H bp G S f) (hS : GSd S) (hf : FM S f) (j : Int) : FnC Try.prog 10 #[.pointer (some ⟨bp, 0, none⟩), .int .i64 j] O H (fun v H' => v = .tuple #[.int .i64 (levN S f j), .int .i64 (levE f j)] ∧ BB H' bp (Gn G H H') (levS S f j) (levF f j) ∧ KeepF G H H') := by
  obtain ⟨T, rfl, a, c, m, h1, h2, h3, h4, h5, h6, h7⟩ := hb
  have hfT : ∀ j r, f j = some r → ∃ k : Nat, r = k ∧ k < T.length := fun j r h => by have := hf j r h; rwa [List.length_map] at this
  refine (leave h1 h2 h3 h4 h5 h6 h7 (gt_of hS) hfT j).mono fun v H' h => ?_
  obtain ⟨⟨g1, g2, g3⟩ | ⟨k, g1, g2, g3, g4⟩, g5⟩ := h
  · have e : ¬ (f j).isSome = true := by rw [g1]; decide
    unfold levN levE levS levF
    rw [if_neg e, if_neg e, if_neg e, if_neg e]
    exact ⟨g2, g3, g5⟩
  · have e : (f j).isSome = true := by rw [g1]; rfl
    have ek : levK f j = k := by unfold levK; rw [g1]; rfl
    unfold levN levE levS levF
    rw [if_pos e, if_pos e, if_pos e, if_pos e, ek, gS_map g2]
    exact ⟨g3, g4, g5⟩
theorem whereB (hb : BB H bp G S f) (hS : GSd S) (hf : FM S f) (j : Int) : FnC Try.prog 14 #[.pointer (some ⟨bp, 0, none⟩), .int .i64 j] O H (fun v H' => v = whV S f j ∧ H = H') := by
  obtain ⟨T, rfl, a, c, m, h1, h2, h3, h4, h5, h6, h7⟩ := hb
  have hfT : ∀ j r, f j = some r → ∃ k : Nat, r = k ∧ k < T.length := fun j r h => by have := hf j r h; rwa [List.length_map] at this
  refine (where_ h1 h2 h3 h4 h5 h6 h7 (gt_of hS) hfT j).mono fun v H' h => ?_
  obtain ⟨⟨g1, g2⟩ | ⟨k, g1, g2, g3⟩, g5⟩ := h
  · have e : ¬ (f j).isSome = true := by rw [g1]; decide
    unfold whV
    rw [if_neg e]
    exact ⟨g2, g5⟩
  · have e : (f j).isSome = true := by rw [g1]; rfl
    have ek : levK f j = k := by unfold levK; rw [g1]; rfl
    unfold whV
    rw [if_pos e, ek, gS_map g2]
    exact ⟨g3, g5⟩
theorem freeB (hb : BB H bp G S f) (hS : GSd S) (b o : Int) : FnC Try.prog 15 #[.pointer (some ⟨bp, 0, none⟩), .int .i64 b, .int .i64 o] O H (fun v H' => v = freV S b o ∧ H = H') := by
  obtain ⟨T, rfl, a, c, m, h1, h2, h3, h4, h5, h6, h7⟩ := hb
  refine (free_ h1 h2 h3 h4 h5 h6 h7 (gt_of hS) b o).mono fun v H' h => ?_
  unfold freV
  rw [List.length_map]
  obtain ⟨⟨g1, g2⟩ | ⟨g1, g2⟩, g5⟩ := h
  · rw [if_pos g1, gS_map (inP_k g1).1]; exact ⟨g2, g5⟩
  · rw [if_neg g1]; exact ⟨g2, g5⟩
theorem linesB (hb : BB H bp G S f) (hS : GSd S) : FnC Try.prog 11 #[.pointer (some ⟨bp, 0, none⟩)] O H (fun v H' => ∃ a' c', v = .slice a' S.length c' ∧ LD H' a' (S.map lnS) ∧ Ext H H') := by
  obtain ⟨T, rfl, a, c, m, h1, h2, h3, h4, h5, h6, h7⟩ := hb
  rw [ln_map, List.length_map]
  exact lines h1 h2 h3 h4 h5 h6 h7 (gt_of hS)
end
end Go.XG
