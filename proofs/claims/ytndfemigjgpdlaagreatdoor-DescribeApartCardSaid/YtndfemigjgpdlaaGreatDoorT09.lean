/-
  A PART of the proof: ApAwakeB.
-/
import Derived.Test.YtndfemigjgpdlaaGreatDoorT06
set_option linter.unusedSimpArgs false
set_option linter.unusedVariables false
namespace Go.Am
open Go.Proofs
set_option maxRecDepth 1000000
theorem awake_ok (σ : AState) : RunF (RsOf Tryz.prog) Tryz.prog n_law41_awake [] σ (fun u σ' => u = .bool true ∧ σ' = σ) :=
  closed_ok (lf := 1000) (n := 1000) rfl rfl (by kernel_rfl) σ
end Go.Am
