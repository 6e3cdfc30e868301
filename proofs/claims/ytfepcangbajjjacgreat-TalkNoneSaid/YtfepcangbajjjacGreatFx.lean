/- Facts of the program's tables. -/
import Derived.Test.YtfepcangbajjjacGreatProg
import Derived.Test.YtfepcangbajjjacGreatPvm
set_option linter.unusedVariables false
set_option linter.unusedSimpArgs false
namespace Go.Proofs.YtfepcangbajjjacGreat.Fx
open Go Go.RowKit Go.Pv
theorem fn4 : fnB Tryz.prog 4 = true := by kernel_rfl
theorem zero31 : (Tryz.prog.info? 31).bind (·.zero) = some (.agg ⟨[.pointer none, .int .i64 0, .slice none 0 0, .slice none 0 0, .map none]⟩) := by kernel_rfl
theorem fn5 : fnB Tryz.prog 5 = true := by kernel_rfl
theorem fn6 : fnB Tryz.prog 6 = true := by kernel_rfl
theorem fa31_4 : faB Tryz.prog 31 4 4 1 = true := by kernel_rfl
theorem nag29 : nagB Tryz.prog 29 = true := by kernel_rfl
theorem fa31_2 : faB Tryz.prog 31 2 2 1 = true := by kernel_rfl
theorem nag22 : nagB Tryz.prog 22 = true := by kernel_rfl
end Go.Proofs.YtfepcangbajjjacGreat.Fx
