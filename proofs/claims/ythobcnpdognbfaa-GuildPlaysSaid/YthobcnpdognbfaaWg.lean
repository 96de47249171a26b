/-
  Walks of the seat's functions over the logic XG: each function, what it computes. Printed by a program out of wip/walks.py.
-/
import Derived.Test.YthobcnpdognbfaaI
import Derived.Test.YthobcnpdognbfaaM
import Derived.Test.YthobcnpdognbfaaWa
import Derived.Test.YthobcnpdognbfaaWb
import Derived.Test.YthobcnpdognbfaaWc
import Derived.Test.YthobcnpdognbfaaWd
import Derived.Test.YthobcnpdognbfaaWe
import Derived.Test.YthobcnpdognbfaaWf
namespace Go.XG
open Go.Proofs
set_option maxRecDepth 4000
set_option maxHeartbeats 4000000
theorem gRolesG {O : Outer} {H : Heap} {bp B : Nat} {X : List (List (List Int))} (h : GAt H bp B X) (hG : GOk X) (id ch : Int) :
    FnC Try.prog 24 #[.pointer (some ⟨bp, 0, none⟩), .int .i64 id, .int .i64 ch] O H (fun v H' => v = .tuple #[.int .i64 (rolN X id ch), .int .i64 (rolE X id ch)] ∧ Ext H H') := by
  obtain ⟨a, c, hs, mp, hO, hM⟩ := h
  exact gRoles mp hO hM hG id ch

theorem gMembersG {O : Outer} {H : Heap} {bp B : Nat} {X : List (List (List Int))} (h : GAt H bp B X) (hG : GOk X) (id : Int) :
    FnC Try.prog 11 #[.pointer (some ⟨bp, 0, none⟩), .int .i64 id] O H (fun v H' => (inG X id ∧ (∃ a' c', v = .tuple #[.slice a' (gM X (ix id)).length c', .int .i64 0] ∧ RowsT H' 41 2 a' (gM X (ix id))) ∨ ¬ inG X id ∧ v = .tuple #[.slice none 0 0, .int .i64 3]) ∧ Ext H H') := by
  obtain ⟨a, c, hs, mp, hO, hM⟩ := h
  exact gMembers mp hO hM hG id

theorem gListG {O : Outer} {H : Heap} {bp B : Nat} {X : List (List (List Int))} (h : GAt H bp B X) (hG : GOk X)  :
    FnC Try.prog 8 #[.pointer (some ⟨bp, 0, none⟩)] O H (fun v H' => ∃ a' c', v = .slice a' X.length c' ∧ (∀ B', DK H' B' a' (tg X)) ∧ Ext H H') := by
  obtain ⟨a, c, hs, mp, hO, hM⟩ := h
  exact gList mp hO hM hG

theorem gOfG {O : Outer} {H : Heap} {bp B : Nat} {X : List (List (List Int))} (h : GAt H bp B X) (hG : GOk X) (ch : Int) :
    FnC Try.prog 12 #[.pointer (some ⟨bp, 0, none⟩), .int .i64 ch] O H (fun v H' => ∃ a' c', v = .slice a' (ofI X ch X.length).length c' ∧ Ints H' a' (ofI X ch X.length) ∧ Ext H H') := by
  obtain ⟨a, c, hs, mp, hO, hM⟩ := h
  exact gOf mp hO hM hG ch

theorem gCloneG {O : Outer} {H : Heap} {bp B : Nat} {X : List (List (List Int))} (h : GAt H bp B X) (hG : GOk X)  :
    FnC Try.prog 7 #[.pointer (some ⟨bp, 0, none⟩)] O H (fun v H' => ∃ b, v = .pointer (some ⟨b, 0, none⟩) ∧ GAt H' b H.size X ∧ Fresh H b ∧ Ext H H') := by
  obtain ⟨a, c, hs, mp, hO, hM⟩ := h
  exact gClone mp hO hM hG

theorem gFoundG {O : Outer} {H : Heap} {bp B : Nat} {X : List (List (List Int))} (h : GAt H bp B X) (hG : GOk X) (hB : B ≤ H.size) (ch : Int) :
    FnC Try.prog 21 #[.pointer (some ⟨bp, 0, none⟩), .int .i64 ch] O H (fun v H' => v = .tuple #[.int .i64 (fouN X ch), .int .i64 (fouE X ch)] ∧ GAt H' bp B (fouX X ch) ∧ KeepF (GF H bp B) H H') := by
  obtain ⟨a, c, hs, mp, hO, hM⟩ := h
  exact gFound mp hO hM hG hB ch

theorem gEnrolG {O : Outer} {H : Heap} {bp B : Nat} {X : List (List (List Int))} (h : GAt H bp B X) (hG : GOk X) (id ch r : Int) :
    FnC Try.prog 22 #[.pointer (some ⟨bp, 0, none⟩), .int .i64 id, .int .i64 ch, .int .i64 r] O H (fun v H' => v = .int .i64 (enrE X id ch r) ∧ GAt H' bp B (enrX X id ch r) ∧ KeepF (GF H bp B) H H') := by
  obtain ⟨a, c, hs, mp, hO, hM⟩ := h
  exact gEnrol mp hO hM hG id ch r

theorem gExpelG {O : Outer} {H : Heap} {bp B : Nat} {X : List (List (List Int))} (h : GAt H bp B X) (hG : GOk X) (id ch : Int) :
    FnC Try.prog 23 #[.pointer (some ⟨bp, 0, none⟩), .int .i64 id, .int .i64 ch] O H (fun v H' => v = .int .i64 (expE X id ch) ∧ GAt H' bp B (expX X id ch) ∧ KeepF (GF H bp B) H H') := by
  obtain ⟨a, c, hs, mp, hO, hM⟩ := h
  exact gExpel mp hO hM hG id ch

theorem gf_ge {H H1 : Heap} {bp : Nat} (hp : H.size ≤ bp) : ∀ i, GF H1 bp H.size i → H.size ≤ i := fun i h => by
  rcases h with rfl | ⟨h, _⟩
  · exact hp
  · exact h
theorem blk_gf {H H1 : Heap} {b bp B : Nat} {cs : List Value} (h : Blk H b cs 27) (hne : b ≠ bp) (k : KeepF (GF H bp B) H H1) : Blk H1 b cs 27 := h.keep k (fun hf => by
  rcases hf with rfl | ⟨_, cs', h2⟩
  · exact hne rfl
  · exact h2.ne h rfl rfl)
theorem rowsT_gf {H H1 : Heap} {bp B : Nat} {a : Option Addr} {l : List (List Int)} (h : RowsT H 41 2 a l) (k : KeepF (GF H bp B) H H1) (hp : ∃ cs, Blk H bp cs 27) : RowsT H1 41 2 a l := ⟨h.wide, h.h.imp id fun ⟨g, o, cs, h1, h2, h3⟩ => ⟨g, o, cs, h1, h2.keep k (fun hf => by
  obtain ⟨pcs, hp⟩ := hp
  rcases hf with rfl | ⟨_, cs', h5⟩
  · exact hp.ne h2 rfl rfl
  · exact h5.ne h2 rfl rfl), h3⟩⟩
end Go.XG
