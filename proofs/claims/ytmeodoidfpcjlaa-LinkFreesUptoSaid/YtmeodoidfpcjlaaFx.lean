/- Facts of the program's tables. -/
import Derived.Test.YtmeodoidfpcjlaaProg
import Derived.Test.YtmeodoidfpcjlaaPvm
set_option linter.unusedVariables false
set_option linter.unusedSimpArgs false
namespace Go.Proofs.Ytmeodoidfpcjlaa.Fx
open Go Go.RowKit Go.Pv
theorem agg46 : aggB Try.prog 46 5 = true := by kernel_rfl
theorem zero46 : (Try.prog.info? 46).bind (·.zero) = some (.agg ⟨[.string ⟨⟨[]⟩⟩, .slice none 0 0, .slice none 0 0, .slice none 0 0, .slice none 0 0]⟩) := by kernel_rfl
theorem fa46_0 : faB Try.prog 46 0 0 4 = true := by kernel_rfl
theorem agg43 : aggB Try.prog 43 4 = true := by kernel_rfl
theorem zero43 : (Try.prog.info? 43).bind (·.zero) = some (.agg ⟨[.string ⟨⟨[]⟩⟩, .slice none 0 0, .slice none 0 0, .slice none 0 0]⟩) := by kernel_rfl
theorem fa43_0 : faB Try.prog 43 0 0 1 = true := by kernel_rfl
theorem nag9 : nagB Try.prog 9 = true := by kernel_rfl
theorem fa43_1 : faB Try.prog 43 1 1 1 = true := by kernel_rfl
theorem nag40 : nagB Try.prog 40 = true := by kernel_rfl
theorem sl40 : slB Try.prog 40 81 3 48 (szB 3) = true := by kernel_rfl
theorem agg81 : aggB Try.prog 81 3 = true := by kernel_rfl
theorem zero81 : (Try.prog.info? 81).bind (·.zero) = some (.agg ⟨[.string ⟨⟨[]⟩⟩, .int .i64 0, .slice none 0 0]⟩) := by kernel_rfl
theorem sz81 : (Try.prog.info? 81).map (·.size) = some 3 := by kernel_rfl
theorem fa81_2 : faB Try.prog 81 2 2 1 = true := by kernel_rfl
theorem nag79 : nagB Try.prog 79 = true := by kernel_rfl
theorem sl79 : slB Try.prog 79 84 2 24 (szB 2) = true := by kernel_rfl
theorem fn36 : fnB Try.prog 36 = true := by kernel_rfl
theorem sz79 : (Try.prog.info? 79).map (·.size) = some 1 := by kernel_rfl
theorem fn38 : fnB Try.prog 38 = true := by kernel_rfl
theorem pl43 : plB Try.prog 43 [(0, 1), (1, 1), (2, 1), (3, 1)] = true := by kernel_rfl
theorem sz43 : (Try.prog.info? 43).map (·.size) = some 4 := by kernel_rfl
theorem mixed : Try.prog.follows .mixedOrders = true := by kernel_rfl
theorem fa43_2 : faB Try.prog 43 2 2 1 = true := by kernel_rfl
theorem nag41 : nagB Try.prog 41 = true := by kernel_rfl
theorem sl41 : slB Try.prog 41 56 5 80 (szB 5) = true := by kernel_rfl
theorem agg56 : aggB Try.prog 56 5 = true := by kernel_rfl
theorem zero56 : (Try.prog.info? 56).bind (·.zero) = some (.agg ⟨[.string ⟨⟨[]⟩⟩, .slice none 0 0, .int .u8 0, .int .i64 0, .slice none 0 0]⟩) := by kernel_rfl
theorem sz56 : (Try.prog.info? 56).map (·.size) = some 5 := by kernel_rfl
theorem fa56_1 : faB Try.prog 56 1 1 2 = true := by kernel_rfl
theorem agg54 : aggB Try.prog 54 2 = true := by kernel_rfl
theorem zero54 : (Try.prog.info? 54).bind (·.zero) = some (.agg ⟨[.slice none 0 0, .int .u8 0]⟩) := by kernel_rfl
theorem fa54_0 : faB Try.prog 54 0 0 1 = true := by kernel_rfl
theorem nag51 : nagB Try.prog 51 = true := by kernel_rfl
theorem sl51 : slB Try.prog 51 52 1 1 (szB 1) = true := by kernel_rfl
theorem fn37 : fnB Try.prog 37 = true := by kernel_rfl
theorem sz51 : (Try.prog.info? 51).map (·.size) = some 1 := by kernel_rfl
theorem sz54 : (Try.prog.info? 54).map (·.size) = some 2 := by kernel_rfl
theorem fn35 : fnB Try.prog 35 = true := by kernel_rfl
theorem fa56_3 : faB Try.prog 56 3 4 1 = true := by kernel_rfl
theorem nag22 : nagB Try.prog 22 = true := by kernel_rfl
theorem sl22 : slB Try.prog 22 5 1 1 (szB 1) = true := by kernel_rfl
theorem fn31 : fnB Try.prog 31 = true := by kernel_rfl
theorem sz22 : (Try.prog.info? 22).map (·.size) = some 1 := by kernel_rfl
theorem fn24 : fnB Try.prog 24 = true := by kernel_rfl
theorem sz41 : (Try.prog.info? 41).map (·.size) = some 1 := by kernel_rfl
theorem fa43_3 : faB Try.prog 43 3 3 1 = true := by kernel_rfl
theorem nag29 : nagB Try.prog 29 = true := by kernel_rfl
theorem sl29 : slB Try.prog 29 22 1 24 (szB 1) = true := by kernel_rfl
theorem sz29 : (Try.prog.info? 29).map (·.size) = some 1 := by kernel_rfl
theorem fn18 : fnB Try.prog 18 = true := by kernel_rfl
theorem pl46 : plB Try.prog 46 [(0, 4), (4, 1)] = true := by kernel_rfl
theorem sz46 : (Try.prog.info? 46).map (·.size) = some 5 := by kernel_rfl
theorem fa46_1 : faB Try.prog 46 1 4 1 = true := by kernel_rfl
theorem nag44 : nagB Try.prog 44 = true := by kernel_rfl
theorem sl44 : slB Try.prog 44 77 3 48 (szB 3) = true := by kernel_rfl
theorem agg77 : aggB Try.prog 77 3 = true := by kernel_rfl
theorem zero77 : (Try.prog.info? 77).bind (·.zero) = some (.agg ⟨[.string ⟨⟨[]⟩⟩, .slice none 0 0, .int .u8 0]⟩) := by kernel_rfl
theorem sz77 : (Try.prog.info? 77).map (·.size) = some 3 := by kernel_rfl
theorem fa77_0 : faB Try.prog 77 0 0 1 = true := by kernel_rfl
theorem fa77_1 : faB Try.prog 77 1 1 2 = true := by kernel_rfl
theorem pl77 : plB Try.prog 77 [(0, 1), (1, 2)] = true := by kernel_rfl
theorem sz44 : (Try.prog.info? 44).map (·.size) = some 1 := by kernel_rfl
theorem fn16 : fnB Try.prog 16 = true := by kernel_rfl
theorem sz40 : (Try.prog.info? 40).map (·.size) = some 1 := by kernel_rfl
theorem fn17 : fnB Try.prog 17 = true := by kernel_rfl
theorem fa81_0 : faB Try.prog 81 0 0 1 = true := by kernel_rfl
theorem fa81_1 : faB Try.prog 81 1 1 1 = true := by kernel_rfl
theorem nag3 : nagB Try.prog 3 = true := by kernel_rfl
theorem agg84 : aggB Try.prog 84 2 = true := by kernel_rfl
theorem nag52 : nagB Try.prog 52 = true := by kernel_rfl
theorem fl84 : (Try.prog.fieldsOf 84).toList = [(⟨ "Name", 9, 0, false, "", "", 0⟩ : Field), (⟨ "Type", 52, 1, false, "", "", 16⟩ : Field)] := by kernel_rfl
theorem st84 : steB Try.prog 84 = true := by kernel_rfl
theorem fn81 : fnB Try.prog 81 = true := by kernel_rfl
theorem fn58 : fnB Try.prog 58 = true := by kernel_rfl
theorem fa56_0 : faB Try.prog 56 0 0 1 = true := by kernel_rfl
theorem fa54_1 : faB Try.prog 54 1 1 1 = true := by kernel_rfl
theorem fn59 : fnB Try.prog 59 = true := by kernel_rfl
theorem fn40 : fnB Try.prog 40 = true := by kernel_rfl
theorem fa56_2 : faB Try.prog 56 2 3 1 = true := by kernel_rfl
theorem nag5 : nagB Try.prog 5 = true := by kernel_rfl
theorem fn32 : fnB Try.prog 32 = true := by kernel_rfl
theorem fn30 : fnB Try.prog 30 = true := by kernel_rfl
theorem fn39 : fnB Try.prog 39 = true := by kernel_rfl
theorem fn19 : fnB Try.prog 19 = true := by kernel_rfl
theorem sz5 : (Try.prog.info? 5).map (·.size) = some 1 := by kernel_rfl
theorem zero90 : (Try.prog.info? 90).bind (·.zero) = some (.agg ⟨[.int .i64 0, .int .u8 0, .int .i64 0, .int .i64 0]⟩) := by kernel_rfl
theorem pl90 : plB Try.prog 90 [(0, 1), (1, 1), (2, 1), (3, 1)] = true := by kernel_rfl
theorem sz90 : (Try.prog.info? 90).map (·.size) = some 4 := by kernel_rfl
theorem agg90 : aggB Try.prog 90 4 = true := by kernel_rfl
theorem fn72 : fnB Try.prog 72 = true := by kernel_rfl
theorem fn53 : fnB Try.prog 53 = true := by kernel_rfl
theorem zero22 : (Try.prog.info? 22).bind (·.zero) = some (.slice none 0 0) := by kernel_rfl
theorem fa90_1 : faB Try.prog 90 1 1 1 = true := by kernel_rfl
theorem fn71 : fnB Try.prog 71 = true := by kernel_rfl
theorem fa90_2 : faB Try.prog 90 2 2 1 = true := by kernel_rfl
theorem sz3 : (Try.prog.info? 3).map (·.size) = some 1 := by kernel_rfl
theorem fa90_3 : faB Try.prog 90 3 3 1 = true := by kernel_rfl
theorem fn52 : fnB Try.prog 52 = true := by kernel_rfl
theorem sl67 : slB Try.prog 67 90 4 32 (szB 4) = true := by kernel_rfl
theorem fn27 : fnB Try.prog 27 = true := by kernel_rfl
theorem sl57 : slB Try.prog 57 3 1 8 (szB 1) = true := by kernel_rfl
theorem fn60 : fnB Try.prog 60 = true := by kernel_rfl
theorem fn41 : fnB Try.prog 41 = true := by kernel_rfl
theorem fn42 : fnB Try.prog 42 = true := by kernel_rfl
theorem fn20 : fnB Try.prog 20 = true := by kernel_rfl
theorem sl93 : slB Try.prog 93 4 1 1 (szB 1) = true := by kernel_rfl
theorem zero4 : (Try.prog.info? 4).bind (·.zero) = some (.bool false) := by kernel_rfl
theorem fn69 : fnB Try.prog 69 = true := by kernel_rfl
theorem fn51 : fnB Try.prog 51 = true := by kernel_rfl
theorem fn70 : fnB Try.prog 70 = true := by kernel_rfl
theorem fn50 : fnB Try.prog 50 = true := by kernel_rfl
theorem fn26 : fnB Try.prog 26 = true := by kernel_rfl
theorem sz4 : (Try.prog.info? 4).map (·.size) = some 1 := by kernel_rfl
theorem nag4 : nagB Try.prog 4 = true := by kernel_rfl
theorem fn21 : fnB Try.prog 21 = true := by kernel_rfl
theorem fn22 : fnB Try.prog 22 = true := by kernel_rfl
end Go.Proofs.Ytmeodoidfpcjlaa.Fx
