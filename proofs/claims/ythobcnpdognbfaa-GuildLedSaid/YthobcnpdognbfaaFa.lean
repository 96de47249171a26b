/-
  GuildLed: for every input the law returns true, and each argument reads behind the call as it read before. No condition.
-/
import Derived.Test.YthobcnpdognbfaaRows
import Derived.Test.YthobcnpdognbfaaXz
import Derived.Test.YthobcnpdognbfaaWi
import Derived.Test.YthobcnpdognbfaaFo
namespace Go.Proofs.Ythobcnpdognbfaa.guildLed
open Go.ChangeShapes Go.WideShapes Go.ChangeAt Go.RowKit Go.XG
open Go.ChangeMaps (open_string shut_string)

theorem own : ownKnob Try.prog.godebug = none := by kernel_rfl

set_option maxHeartbeats 4000000
set_option maxRecDepth 100000 in
theorem lifted (os : Os) (started : os.Started) (H : Type) (enc : TypeId × Value → H) :
    ReturnsInHanded {} Try.checked os 3 .any (Rows.guildLedSpec.pre6 enc Try.prog Try.f3 Rows.guildLedRow.domain false) (Rows.guildLedSpec.post enc Try.prog Try.f3 false true false false) := by
  refine returnsInHanded_of_change (C := Try.checked) own started (by kernel_rfl) Try.func3
    (ChangeSpec.witness6 (enc := enc) (C := Try.checked) false ⟨#[], #[.slice none 0 0], []⟩ 8 (by kernel_rfl) (by kernel_rfl) (by kernel_rfl) (by kernel_rfl)) ?_
  intro W base args ds gs before hval0 hW hcnd _
  have hval : ∀ (j : Nat) t v, Try.f3.params[j]? = some t → args[j]? = some v → Value.okWide Try.prog W .any base t v := hval0
  have hW' := hW
  obtain ⟨p, q, hA0, hV, rfl, hfz, hnd⟩ := hW
  have hA : DataW.TrodAll enc Try.prog W 0 (fun _ => true) true Try.f3.params.toList args.toList ds p := hA0
  obtain ⟨rfl, rfl⟩ := trodVars_none hV
  have hA1 := hA
  rw [Try.params3] at hA1 hval
  obtain ⟨v0, vs0, d0, ds0, p0, q0, hargs, rfl, rfl, h0, r0⟩ := trodAll_cons hA1
  obtain ⟨rfl, rfl, rfl⟩ := trodAll_nil r0
  obtain rfl : args = #[v0] := by cases args; simp_all
  obtain ⟨a0, n0, m0, rfl⟩ := okWide_slice Try.underlying22 (hval 0 22 v0 rfl rfl)
  obtain ⟨L0, rfl, hL0, hB0, hI0⟩ := slice_flat (k := 4) Try.underlying22 (by omega) h0
  refine law_calls (c3 hL0) fun W1 H1 hs hE => ⟨_, rfl, ?_⟩
  exact law_post (by kernel_rfl) rfl rfl rfl rfl (by kernel_rfl) Try.underlying4 (by kernel_rfl) hW' hA hs hE

theorem over : Rows.guildLedRow.holds Try.pinned (OpenSpec.ofChange Rows.guildLedSpec) :=
  OpenClaim.holds_of_wide 3 Try.f3 rfl rfl rfl rfl rfl rfl rfl ⟨rfl, rfl, rfl, rfl, rfl⟩ rfl rfl rfl rfl rfl (by kernel_rfl) Try.func3 (by kernel_rfl)
    (of_decide_eq_true (by kernel_rfl)) (by unfold Func.isWrapper; first | (rw [if_pos (by decide +kernel)]; kernel_rfl) | (rw [if_neg (by decide +kernel)]; exact ⟨rfl, rfl⟩))
    (fun os started H enc _ => lifted os started H enc)

/-- The given statement. -/
theorem proved : Rows.GuildLedSaid := over
#print axioms proved
end Go.Proofs.Ythobcnpdognbfaa.guildLed
