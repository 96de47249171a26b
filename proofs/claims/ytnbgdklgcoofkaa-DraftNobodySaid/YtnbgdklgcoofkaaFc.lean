/-
  DraftNobody: for every input the law returns true, and each argument reads behind the call as it read before. No condition.
-/
import Derived.Test.YtnbgdklgcoofkaaRows
import Derived.Test.YtnbgdklgcoofkaaXz
import Derived.Test.YtnbgdklgcoofkaaWh
import Derived.Test.YtnbgdklgcoofkaaFo
namespace Go.Proofs.Ytnbgdklgcoofkaa.draftNobody
open Go.ChangeShapes Go.WideShapes Go.ChangeAt Go.RowKit Go.XG
open Go.ChangeMaps (open_string shut_string)

theorem own : ownKnob Try.prog.godebug = none := by kernel_rfl

set_option maxHeartbeats 4000000
set_option maxRecDepth 100000 in
theorem lifted (os : Os) (started : os.Started) (H : Type) (enc : TypeId × Value → H) :
    ReturnsInHanded {} Try.checked os 4 .any (Rows.draftNobodySpec.pre6 enc Try.prog Try.f4 Rows.draftNobodyRow.domain false) (Rows.draftNobodySpec.post enc Try.prog Try.f4 false true false false) := by
  refine returnsInHanded_of_change (C := Try.checked) own started (by kernel_rfl) Try.func4
    (ChangeSpec.witness6 (enc := enc) (C := Try.checked) false ⟨#[], #[.agg #[.int .i64 0, .int .i64 0, .int .i64 0, .int .i64 0, .int .i64 0, .int .i64 0, .int .i64 0, .int .i64 0, .int .i64 0, .int .i64 0, .int .i64 0, .int .i64 0, .int .i64 0]], []⟩ 8 (by kernel_rfl) (by kernel_rfl) (by kernel_rfl) (by kernel_rfl)) ?_
  intro W base args ds gs before hval0 hW hcnd _
  have hval : ∀ (j : Nat) t v, Try.f4.params[j]? = some t → args[j]? = some v → Value.okWide Try.prog W .any base t v := hval0
  have hW' := hW
  obtain ⟨p, q, hA0, hV, rfl, hfz, hnd⟩ := hW
  have hA : DataW.TrodAll enc Try.prog W 0 (fun _ => true) true Try.f4.params.toList args.toList ds p := hA0
  obtain ⟨rfl, rfl⟩ := trodVars_none hV
  have hA1 := hA
  rw [Try.params4] at hA1 hval
  obtain ⟨v0, vs0, d0, ds0, p0, q0, hargs, rfl, rfl, h0, r0⟩ := trodAll_cons hA1
  obtain ⟨rfl, rfl, rfl⟩ := trodAll_nil r0
  obtain rfl : args = #[v0] := by cases args; simp_all
  obtain ⟨ns0, hv0, hns0, _⟩ := open_flat (n := 13) (by decide) h0
  obtain ⟨x0, x1, x2, x3, x4, x5, x6, x7, x8, x9, x10, x11, x12, rfl⟩ := of13 hns0
  replace hv0 : v0 = .agg #[.int .i64 x0, .int .i64 x1, .int .i64 x2, .int .i64 x3, .int .i64 x4, .int .i64 x5, .int .i64 x6, .int .i64 x7, .int .i64 x8, .int .i64 x9, .int .i64 x10, .int .i64 x11, .int .i64 x12] := hv0
  subst hv0
  refine law_calls (c4 x0 x1 x2 x3 x4 x5 x6 x7 x8 x9 x10 x11 x12) fun W1 H1 hs hE => ⟨_, rfl, ?_⟩
  exact law_post (by kernel_rfl) rfl rfl rfl rfl (by kernel_rfl) Try.underlying4 (by kernel_rfl) hW' hA hs hE

theorem over : Rows.draftNobodyRow.holds Try.pinned (OpenSpec.ofChange Rows.draftNobodySpec) :=
  OpenClaim.holds_of_wide 4 Try.f4 rfl rfl rfl rfl rfl rfl rfl ⟨rfl, rfl, rfl, rfl, rfl⟩ rfl rfl rfl rfl rfl (by kernel_rfl) Try.func4 (by kernel_rfl)
    (of_decide_eq_true (by kernel_rfl)) (by unfold Func.isWrapper; first | (rw [if_pos (by decide +kernel)]; kernel_rfl) | (rw [if_neg (by decide +kernel)]; exact ⟨rfl, rfl⟩))
    (fun os started H enc _ => lifted os started H enc)

/-- The given statement. -/
theorem proved : Rows.DraftNobodySaid := over
#print axioms proved
end Go.Proofs.Ytnbgdklgcoofkaa.draftNobody
