/- Facts of the program's tables. -/
import Derived.Test.YtmeodoidfpcjlaaProg
import Derived.Test.YtmeodoidfpcjlaaPvm
set_option linter.unusedVariables false
set_option linter.unusedSimpArgs false
namespace Go.Proofs.Ytmeodoidfpcjlaa.Fx
open Go Go.RowKit Go.Pv
theorem sl57 : slB Try.prog 57 3 1 8 (szB 1) = true := by kernel_rfl
theorem fn42 : fnB Try.prog 42 = true := by kernel_rfl
theorem sl22 : slB Try.prog 22 5 1 1 (szB 1) = true := by kernel_rfl
theorem fn31 : fnB Try.prog 31 = true := by kernel_rfl
theorem pl35 : plB Try.prog 35 [(0, 1), (1, 1), (2, 1)] = true := by kernel_rfl
theorem zero35 : (Try.prog.info? 35).bind (·.zero) = some (.agg ⟨[.int .i64 0, .int .i64 0, .slice none 0 0]⟩) := by kernel_rfl
theorem sl25 : slB Try.prog 25 35 3 40 (szB 3) = true := by kernel_rfl
theorem fa35_0 : faB Try.prog 35 0 0 1 = true := by kernel_rfl
theorem nag3 : nagB Try.prog 3 = true := by kernel_rfl
theorem fa35_1 : faB Try.prog 35 1 1 1 = true := by kernel_rfl
theorem fa35_2 : faB Try.prog 35 2 2 1 = true := by kernel_rfl
theorem nag22 : nagB Try.prog 22 = true := by kernel_rfl
theorem nag5 : nagB Try.prog 5 = true := by kernel_rfl
theorem mixed : Try.prog.follows .mixedOrders = true := by kernel_rfl
theorem fn32 : fnB Try.prog 32 = true := by kernel_rfl
theorem fa32_0 : faB Try.prog 32 0 0 1 = true := by kernel_rfl
theorem nag29 : nagB Try.prog 29 = true := by kernel_rfl
theorem sl29 : slB Try.prog 29 22 1 24 (szB 1) = true := by kernel_rfl
theorem sz29 : (Try.prog.info? 29).map (·.size) = some 1 := by kernel_rfl
theorem fn33 : fnB Try.prog 33 = true := by kernel_rfl
theorem fa32_1 : faB Try.prog 32 1 1 1 = true := by kernel_rfl
theorem nag30 : nagB Try.prog 30 = true := by kernel_rfl
theorem sl30 : slB Try.prog 30 57 1 24 (szB 1) = true := by kernel_rfl
theorem nag57 : nagB Try.prog 57 = true := by kernel_rfl
theorem sz5 : (Try.prog.info? 5).map (·.size) = some 1 := by kernel_rfl
theorem sz3 : (Try.prog.info? 3).map (·.size) = some 1 := by kernel_rfl
theorem fn34 : fnB Try.prog 34 = true := by kernel_rfl
theorem fn9 : fnB Try.prog 9 = true := by kernel_rfl
theorem fn10 : fnB Try.prog 10 = true := by kernel_rfl
theorem fn11 : fnB Try.prog 11 = true := by kernel_rfl
theorem zero32 : (Try.prog.info? 32).bind (·.zero) = some (.agg ⟨[.slice none 0 0, .slice none 0 0]⟩) := by kernel_rfl
theorem agg35 : aggB Try.prog 35 3 = true := by kernel_rfl
theorem fn12 : fnB Try.prog 12 = true := by kernel_rfl
theorem fn13 : fnB Try.prog 13 = true := by kernel_rfl
theorem fn14 : fnB Try.prog 14 = true := by kernel_rfl
theorem fn15 : fnB Try.prog 15 = true := by kernel_rfl
end Go.Proofs.Ytmeodoidfpcjlaa.Fx
