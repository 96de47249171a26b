/-
  VaultKeeps: for every input the law returns true, and each argument reads behind the call as it read before. No condition.
-/
import Derived.Test.YtjlhjjjhblcokaaRows
import Derived.Test.YtjlhjjjhblcokaaXz
import Derived.Test.YtjlhjjjhblcokaaVl
import Derived.Test.YtjlhjjjhblcokaaFq
namespace Go.Proofs.Ytjlhjjjhblcokaa.vaultKeeps
open Go.ChangeShapes Go.WideShapes Go.ChangeAt Go.RowKit Go.XG
open Go.ChangeMaps (open_string shut_string)

theorem own : ownKnob Try.prog.godebug = none := by kernel_rfl

set_option maxHeartbeats 4000000
set_option maxRecDepth 100000 in
theorem lifted (os : Os) (started : os.Started) (H : Type) (enc : TypeId × Value → H) :
    ReturnsInHanded {} Try.checked os 6 .any (Rows.vaultKeepsSpec.pre6 enc Try.prog Try.f6 Rows.vaultKeepsRow.domain false) (Rows.vaultKeepsSpec.post enc Try.prog Try.f6 false true false false) := by
  refine returnsInHanded_of_change (C := Try.checked) own started (by kernel_rfl) Try.func6
    (ChangeSpec.witness6 (enc := enc) (C := Try.checked) false ⟨#[], #[.slice none 0 0, .agg #[.int .i64 0, .int .i64 0, .int .i64 0, .int .i64 0], .agg #[.slice none 0 0, .slice none 0 0]], []⟩ 8 (by kernel_rfl) (by kernel_rfl) (by kernel_rfl) (by kernel_rfl)) ?_
  intro W base args ds gs before hval0 hW hcnd _
  have hval : ∀ (j : Nat) t v, Try.f6.params[j]? = some t → args[j]? = some v → Value.okWide Try.prog W .any base t v := hval0
  have hW' := hW
  obtain ⟨p, q, hA0, hV, rfl, hfz, hnd⟩ := hW
  have hA : DataW.TrodAll enc Try.prog W 0 (fun _ => true) true Try.f6.params.toList args.toList ds p := hA0
  obtain ⟨rfl, rfl⟩ := trodVars_none hV
  have hA1 := hA
  rw [Try.params6] at hA1 hval
  obtain ⟨v0, vs0, d0, ds0, p0, q0, hargs, rfl, rfl, h0, r0⟩ := trodAll_cons hA1
  obtain ⟨v1, vs1, d1, ds1, p1, q1, rfl, rfl, rfl, h1, r1⟩ := trodAll_cons r0
  obtain ⟨v2, vs2, d2, ds2, p2, q2, rfl, rfl, rfl, h2, r2⟩ := trodAll_cons r1
  obtain ⟨rfl, rfl, rfl⟩ := trodAll_nil r2
  obtain rfl : args = #[v0, v1, v2] := by cases args; simp_all
  obtain ⟨a0, n0, m0, rfl⟩ := okWide_slice Try.underlying29 (hval 0 29 v0 rfl rfl)
  obtain ⟨L0, rfl, hL0, hB0, hI0⟩ := slice_flat (k := 5) Try.underlying29 (by omega) h0
  obtain ⟨ns1, hv1, hns1, _⟩ := open_flat (n := 4) (by decide) h1
  obtain ⟨x0, x1, x2, x3, rfl⟩ := of4 hns1
  replace hv1 : v1 = .agg #[.int .i64 x0, .int .i64 x1, .int .i64 x2, .int .i64 x3] := hv1
  subst hv1
  obtain ⟨ka, kb, ca, cb, s0, s1, rfl, hsA, hsB⟩ := open_two h2
  refine law_calls (c6 (x0 := x0) (x1 := x1) (x2 := x2) (x3 := x3) hL0 hsA hsB) fun W1 H1 hs hE => ⟨_, rfl, ?_⟩
  exact law_post (by kernel_rfl) rfl rfl rfl rfl (by kernel_rfl) Try.underlying4 (by kernel_rfl) hW' hA hs hE

theorem over : Rows.vaultKeepsRow.holds Try.pinned (OpenSpec.ofChange Rows.vaultKeepsSpec) :=
  OpenClaim.holds_of_wide 6 Try.f6 rfl rfl rfl rfl rfl rfl rfl ⟨rfl, rfl, rfl, rfl, rfl⟩ rfl rfl rfl rfl rfl (by kernel_rfl) Try.func6 (by kernel_rfl)
    (of_decide_eq_true (by kernel_rfl)) (by unfold Func.isWrapper; first | (rw [if_pos (by decide +kernel)]; kernel_rfl) | (rw [if_neg (by decide +kernel)]; exact ⟨rfl, rfl⟩))
    (fun os started H enc _ => lifted os started H enc)

/-- The given statement. -/
theorem proved : Rows.VaultKeepsSaid := over
#print axioms proved
end Go.Proofs.Ytjlhjjjhblcokaa.vaultKeeps
