/- Facts of the program's tables. -/
import Derived.Test.YtpcdphfneidalaaProg
import Derived.Test.YtpcdphfneidalaaPvk
set_option linter.unusedVariables false
set_option linter.unusedSimpArgs false
namespace Go.Proofs.Ytpcdphfneidalaa.Fx
open Go Go.RowKit Go.Pv
theorem sl22 : slB Try.prog 22 5 1 1 (szB 1) = true := by kernel_rfl
theorem fn27 : fnB Try.prog 27 = true := by kernel_rfl
theorem pl35 : plB Try.prog 35 [(0, 1), (1, 1), (2, 1)] = true := by kernel_rfl
theorem zero35 : (Try.prog.info? 35).bind (·.zero) = some (.agg ⟨[.int .i64 0, .int .i64 0, .slice none 0 0]⟩) := by kernel_rfl
theorem sl25 : slB Try.prog 25 35 3 40 (szB 3) = true := by kernel_rfl
theorem nag5 : nagB Try.prog 5 = true := by kernel_rfl
theorem mixed : Try.prog.follows .mixedOrders = true := by kernel_rfl
theorem fa35_0 : faB Try.prog 35 0 0 1 = true := by kernel_rfl
theorem nag3 : nagB Try.prog 3 = true := by kernel_rfl
theorem fa35_1 : faB Try.prog 35 1 1 1 = true := by kernel_rfl
theorem fa35_2 : faB Try.prog 35 2 2 1 = true := by kernel_rfl
theorem nag22 : nagB Try.prog 22 = true := by kernel_rfl
theorem fn17 : fnB Try.prog 17 = true := by kernel_rfl
theorem fa32_0 : faB Try.prog 32 0 0 1 = true := by kernel_rfl
theorem nag29 : nagB Try.prog 29 = true := by kernel_rfl
theorem fn8 : fnB Try.prog 8 = true := by kernel_rfl
theorem pl75 : plB Try.prog 75 [(0, 1), (1, 1)] = true := by kernel_rfl
theorem zero75 : (Try.prog.info? 75).bind (·.zero) = some (.agg ⟨[.slice none 0 0, .bool false]⟩) := by kernel_rfl
theorem fa75_1 : faB Try.prog 75 1 1 1 = true := by kernel_rfl
theorem nag4 : nagB Try.prog 4 = true := by kernel_rfl
theorem fa75_0 : faB Try.prog 75 0 0 1 = true := by kernel_rfl
theorem sz22 : (Try.prog.info? 22).map (·.size) = some 1 := by kernel_rfl
theorem fn45 : fnB Try.prog 45 = true := by kernel_rfl
theorem zero84 : (Try.prog.info? 84).bind (·.zero) = some (.agg ⟨(List.replicate 4 (0 : UInt8)).flatMap (fun x : UInt8 => [Value.int .u8 (x.toNat : Int)])⟩) := by kernel_rfl
theorem ar84 : arB Try.prog 84 5 4 1 = true := by kernel_rfl
theorem sz5 : (Try.prog.info? 5).map (·.size) = some 1 := by kernel_rfl
theorem fn46 : fnB Try.prog 46 = true := by kernel_rfl
theorem fn44 : fnB Try.prog 44 = true := by kernel_rfl
theorem zero85 : (Try.prog.info? 85).bind (·.zero) = some (.agg ⟨(List.replicate 256 (0 : Int)).flatMap (fun x : Int => [Value.int .u32 x])⟩) := by kernel_rfl
theorem ar85 : arB Try.prog 85 79 256 1 = true := by kernel_rfl
theorem sz79 : (Try.prog.info? 79).map (·.size) = some 1 := by kernel_rfl
theorem agg85 : aggB Try.prog 85 256 = true := by kernel_rfl
theorem sz85 : (Try.prog.info? 85).map (·.size) = some 256 := by kernel_rfl
theorem fn54 : fnB Try.prog 54 = true := by kernel_rfl
theorem nag79 : nagB Try.prog 79 = true := by kernel_rfl
theorem zero5 : (Try.prog.info? 5).bind (·.zero) = some (.int .u8 0) := by kernel_rfl
theorem fn49 : fnB Try.prog 49 = true := by kernel_rfl
theorem fn48 : fnB Try.prog 48 = true := by kernel_rfl
theorem fn47 : fnB Try.prog 47 = true := by kernel_rfl
theorem fn30 : fnB Try.prog 30 = true := by kernel_rfl
theorem fn31 : fnB Try.prog 31 = true := by kernel_rfl
theorem fn32 : fnB Try.prog 32 = true := by kernel_rfl
theorem fn33 : fnB Try.prog 33 = true := by kernel_rfl
theorem fn34 : fnB Try.prog 34 = true := by kernel_rfl
theorem fn35 : fnB Try.prog 35 = true := by kernel_rfl
theorem fn50 : fnB Try.prog 50 = true := by kernel_rfl
theorem fn36 : fnB Try.prog 36 = true := by kernel_rfl
theorem fn37 : fnB Try.prog 37 = true := by kernel_rfl
theorem fa41_0 : faB Try.prog 41 0 0 1 = true := by kernel_rfl
theorem fa41_1 : faB Try.prog 41 1 1 1 = true := by kernel_rfl
theorem fn15 : fnB Try.prog 15 = true := by kernel_rfl
theorem agg35 : aggB Try.prog 35 3 = true := by kernel_rfl
theorem fn16 : fnB Try.prog 16 = true := by kernel_rfl
theorem fn14 : fnB Try.prog 14 = true := by kernel_rfl
theorem pl41 : plB Try.prog 41 [(0, 1), (1, 1)] = true := by kernel_rfl
theorem zero41 : (Try.prog.info? 41).bind (·.zero) = some (.agg ⟨[.int .i64 0, .slice none 0 0]⟩) := by kernel_rfl
theorem fn18 : fnB Try.prog 18 = true := by kernel_rfl
theorem agg41 : aggB Try.prog 41 2 = true := by kernel_rfl
theorem fn19 : fnB Try.prog 19 = true := by kernel_rfl
theorem pl81 : plB Try.prog 81 [(0, 1), (1, 1), (2, 1)] = true := by kernel_rfl
theorem zero81 : (Try.prog.info? 81).bind (·.zero) = some (.agg ⟨[.slice none 0 0, .int .i64 0, .bool false]⟩) := by kernel_rfl
theorem fa81_2 : faB Try.prog 81 2 2 1 = true := by kernel_rfl
theorem fn55 : fnB Try.prog 55 = true := by kernel_rfl
theorem fa81_0 : faB Try.prog 81 0 0 1 = true := by kernel_rfl
theorem fa81_1 : faB Try.prog 81 1 1 1 = true := by kernel_rfl
theorem fn56 : fnB Try.prog 56 = true := by kernel_rfl
theorem sz3 : (Try.prog.info? 3).map (·.size) = some 1 := by kernel_rfl
theorem fn53 : fnB Try.prog 53 = true := by kernel_rfl
theorem fn52 : fnB Try.prog 52 = true := by kernel_rfl
theorem fn39 : fnB Try.prog 39 = true := by kernel_rfl
theorem fn51 : fnB Try.prog 51 = true := by kernel_rfl
theorem fn38 : fnB Try.prog 38 = true := by kernel_rfl
theorem sz35 : (Try.prog.info? 35).map (·.size) = some 3 := by kernel_rfl
theorem fn40 : fnB Try.prog 40 = true := by kernel_rfl
theorem fn41 : fnB Try.prog 41 = true := by kernel_rfl
theorem fn42 : fnB Try.prog 42 = true := by kernel_rfl
theorem fn43 : fnB Try.prog 43 = true := by kernel_rfl
theorem sz41 : (Try.prog.info? 41).map (·.size) = some 2 := by kernel_rfl
theorem fn20 : fnB Try.prog 20 = true := by kernel_rfl
theorem fn21 : fnB Try.prog 21 = true := by kernel_rfl
theorem fn11 : fnB Try.prog 11 = true := by kernel_rfl
theorem fn22 : fnB Try.prog 22 = true := by kernel_rfl
theorem fn23 : fnB Try.prog 23 = true := by kernel_rfl
theorem fn24 : fnB Try.prog 24 = true := by kernel_rfl
theorem fn25 : fnB Try.prog 25 = true := by kernel_rfl
theorem fn26 : fnB Try.prog 26 = true := by kernel_rfl
end Go.Proofs.Ytpcdphfneidalaa.Fx
