/- Facts of the program's tables. -/
import Derived.Test.YtkcehlfcfcabmaaGreatProg
import Derived.Test.YtkcehlfcfcabmaaGreatPvA
set_option linter.unusedVariables false
set_option linter.unusedSimpArgs false
namespace Go.Proofs.YtkcehlfcfcabmaaGreat.Fx
open Go Go.RowKit Go.Pv
theorem zero39 : (Tryz.prog.info? 39).bind (·.zero) = some (.agg ⟨[.int .i32 0, .int .u32 0, .nilIface, .int .i64 0, .string ⟨⟨[]⟩⟩, .string ⟨⟨[]⟩⟩, .slice none 0 0, .slice none 0 0, .slice none 0 0]⟩) := by kernel_rfl
theorem sl40 : slB Tryz.prog 40 23 1 8 (szB 1) = true := by kernel_rfl
theorem nag23 : nagB Tryz.prog 23 = true := by kernel_rfl
theorem zero51 : (Tryz.prog.info? 51).bind (·.zero) = some (.agg ⟨[.int .i64 0, .int .i64 0, .int .i64 0, .slice none 0 0, .int .i64 0, .int .i64 0]⟩) := by kernel_rfl
theorem pl51 : plB Tryz.prog 51 [(0, 1), (1, 1), (2, 1), (3, 1), (4, 1), (5, 1)] = true := by kernel_rfl
theorem sz51 : (Tryz.prog.info? 51).map (·.size) = some 6 := by kernel_rfl
theorem agg51 : aggB Tryz.prog 51 6 = true := by kernel_rfl
theorem sl56 : slB Tryz.prog 56 41 1 8 (szB 1) = true := by kernel_rfl
theorem nag41 : nagB Tryz.prog 41 = true := by kernel_rfl
theorem fa39_1 : faB Tryz.prog 39 1 2 1 = true := by kernel_rfl
theorem nag32 : nagB Tryz.prog 32 = true := by kernel_rfl
theorem fn14 : fnB Tryz.prog 14 = true := by kernel_rfl
theorem fn12 : fnB Tryz.prog 12 = true := by kernel_rfl
end Go.Proofs.YtkcehlfcfcabmaaGreat.Fx
namespace Go.Proofs.YtkcehlfcfcabmaaGreat
open Go Go.RowKit Go.Pv
def tab : Tab := ⟨[(39, 1, 2, 1)], [4, 5, 6, 7, 8, 9, 10, 11, 12, 13, 15], [23, 32, 41], [(51, 6)]⟩
instance : HasTab Tryz.prog := ⟨tab, by kernel_rfl⟩
end Go.Proofs.YtkcehlfcfcabmaaGreat
namespace Go.Proofs.YtkcehlfcfcabmaaGreat.Fx
end Go.Proofs.YtkcehlfcfcabmaaGreat.Fx
