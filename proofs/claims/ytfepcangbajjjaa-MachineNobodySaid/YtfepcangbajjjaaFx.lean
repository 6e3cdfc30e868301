/- Facts of the program's tables. -/
import Derived.Test.YtfepcangbajjjaaProg
import Derived.Test.YtfepcangbajjjaaPvm
set_option linter.unusedVariables false
set_option linter.unusedSimpArgs false
namespace Go.Proofs.Ytfepcangbajjjaa.Fx
open Go Go.RowKit Go.Pv
theorem fn30 : fnB Try.prog 30 = true := by kernel_rfl
theorem zero69 : (Try.prog.info? 69).bind (·.zero) = some (.agg ⟨[.int .i64 0, .int .u8 0, .int .i64 0, .int .i64 0]⟩) := by kernel_rfl
theorem pl69 : plB Try.prog 69 [(0, 1), (1, 1), (2, 1), (3, 1)] = true := by kernel_rfl
theorem sz69 : (Try.prog.info? 69).map (·.size) = some 4 := by kernel_rfl
theorem agg69 : aggB Try.prog 69 4 = true := by kernel_rfl
theorem sl64 : slB Try.prog 64 5 1 1 (szB 1) = true := by kernel_rfl
theorem nag5 : nagB Try.prog 5 = true := by kernel_rfl
theorem fn18 : fnB Try.prog 18 = true := by kernel_rfl
theorem zero64 : (Try.prog.info? 64).bind (·.zero) = some (.slice none 0 0) := by kernel_rfl
theorem sz64 : (Try.prog.info? 64).map (·.size) = some 1 := by kernel_rfl
theorem fa69_1 : faB Try.prog 69 1 1 1 = true := by kernel_rfl
theorem nag64 : nagB Try.prog 64 = true := by kernel_rfl
theorem fn29 : fnB Try.prog 29 = true := by kernel_rfl
theorem fa69_2 : faB Try.prog 69 2 2 1 = true := by kernel_rfl
theorem sz3 : (Try.prog.info? 3).map (·.size) = some 1 := by kernel_rfl
theorem fa69_3 : faB Try.prog 69 3 3 1 = true := by kernel_rfl
theorem nag3 : nagB Try.prog 3 = true := by kernel_rfl
theorem pl49 : plB Try.prog 49 [(0, 1), (1, 1), (2, 1)] = true := by kernel_rfl
theorem zero49 : (Try.prog.info? 49).bind (·.zero) = some (.agg ⟨[.int .i64 0, .int .i64 0, .int .i64 0]⟩) := by kernel_rfl
theorem zero33 : (Try.prog.info? 33).bind (·.zero) = some (.slice none 0 0) := by kernel_rfl
theorem nag33 : nagB Try.prog 33 = true := by kernel_rfl
theorem sl33 : slB Try.prog 33 3 1 8 (szB 1) = true := by kernel_rfl
theorem sz33 : (Try.prog.info? 33).map (·.size) = some 1 := by kernel_rfl
theorem fn55 : fnB Try.prog 55 = true := by kernel_rfl
theorem sl41 : slB Try.prog 41 111 3 48 (szB 3) = true := by kernel_rfl
theorem fa111_1 : faB Try.prog 111 1 1 1 = true := by kernel_rfl
theorem fn54 : fnB Try.prog 54 = true := by kernel_rfl
theorem fa111_2 : faB Try.prog 111 2 2 1 = true := by kernel_rfl
theorem nag101 : nagB Try.prog 101 = true := by kernel_rfl
theorem sl101 : slB Try.prog 101 104 2 24 (szB 2) = true := by kernel_rfl
theorem fa76_1 : faB Try.prog 76 1 1 1 = true := by kernel_rfl
theorem mixed : Try.prog.follows .mixedOrders = true := by kernel_rfl
theorem fa35_0 : faB Try.prog 35 0 0 1 = true := by kernel_rfl
theorem nag27 : nagB Try.prog 27 = true := by kernel_rfl
theorem fa35_1 : faB Try.prog 35 1 1 1 = true := by kernel_rfl
theorem fa35_2 : faB Try.prog 35 2 2 1 = true := by kernel_rfl
theorem fa35_4 : faB Try.prog 35 4 4 1 = true := by kernel_rfl
theorem fa35_5 : faB Try.prog 35 5 5 1 = true := by kernel_rfl
theorem fa35_3 : faB Try.prog 35 3 3 1 = true := by kernel_rfl
theorem fn11 : fnB Try.prog 11 = true := by kernel_rfl
theorem pl25 : plB Try.prog 25 [(0, 1)] = true := by kernel_rfl
theorem zero25 : (Try.prog.info? 25).bind (·.zero) = some (.agg ⟨[.pointer none]⟩) := by kernel_rfl
theorem sl26 : slB Try.prog 26 22 1 8 (szB 1) = true := by kernel_rfl
theorem nag22 : nagB Try.prog 22 = true := by kernel_rfl
theorem fn8 : fnB Try.prog 8 = true := by kernel_rfl
theorem fn4 : fnB Try.prog 4 = true := by kernel_rfl
theorem fn5 : fnB Try.prog 5 = true := by kernel_rfl
theorem zero35 : (Try.prog.info? 35).bind (·.zero) = some (.agg ⟨[.int .i64 0, .int .i64 0, .int .i64 0, .slice none 0 0, .int .i64 0, .int .i64 0]⟩) := by kernel_rfl
theorem pl35 : plB Try.prog 35 [(0, 1), (1, 1), (2, 1), (3, 1), (4, 1), (5, 1)] = true := by kernel_rfl
theorem sz35 : (Try.prog.info? 35).map (·.size) = some 6 := by kernel_rfl
theorem agg35 : aggB Try.prog 35 6 = true := by kernel_rfl
theorem fn7 : fnB Try.prog 7 = true := by kernel_rfl
theorem fn6 : fnB Try.prog 6 = true := by kernel_rfl
theorem fa25_0 : faB Try.prog 25 0 0 1 = true := by kernel_rfl
theorem nag23 : nagB Try.prog 23 = true := by kernel_rfl
end Go.Proofs.Ytfepcangbajjjaa.Fx
