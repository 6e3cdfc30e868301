/- The plain law: a machine that no call made answers ErrNil, and zero values. -/
import Derived.Test.YtfepcangbajjjaaDf
set_option linter.unusedVariables false
set_option linter.unusedSimpArgs false
namespace Go.Proofs.Ytfepcangbajjjaa
open Go Go.RowKit Go.Pv
theorem nobody_equal : slices_Equal_int_int [] [] = some true := by
  unfold slices_Equal_int_int
  rw [if_neg (by decide), loopO_eq]
  rfl
theorem nobody_same : provisoplain_SameOutcome (⟨0, 0, 0, [], 0, 0⟩ : S_api_Outcome) (⟨0, 0, 0, [], 0, 0⟩ : S_api_Outcome) = some true := by
  unfold provisoplain_SameOutcome
  simp [nobody_equal]
theorem MachineNobody_law (n : Int) : provisolaw17_MachineNobody n = some true := by
  unfold provisolaw17_MachineNobody machine_Machine_Go_np machine_Machine_Where_n machine_Machine_Outcome_n machine_Machine_Go_zp machine_Machine_Where_z machine_Machine_Outcome_z machine_Machine_ready_n machine_Machine_ready_z
  simp [nobody_same]
end Go.Proofs.Ytfepcangbajjjaa
