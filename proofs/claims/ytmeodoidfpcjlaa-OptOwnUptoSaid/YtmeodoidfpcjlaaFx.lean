/- Facts of the program's tables. -/
import Derived.Test.YtmeodoidfpcjlaaProg
import Derived.Test.YtmeodoidfpcjlaaPvm
set_option linter.unusedVariables false
set_option linter.unusedSimpArgs false
namespace Go.Proofs.Ytmeodoidfpcjlaa.Fx
open Go Go.RowKit Go.Pv
theorem sl57 : slB Try.prog 57 3 1 8 (szB 1) = true := by kernel_rfl
theorem fn42 : fnB Try.prog 42 = true := by kernel_rfl
theorem fa56_3 : faB Try.prog 56 3 4 1 = true := by kernel_rfl
theorem nag22 : nagB Try.prog 22 = true := by kernel_rfl
theorem pl32 : plB Try.prog 32 [(0, 1), (1, 1)] = true := by kernel_rfl
theorem zero32 : (Try.prog.info? 32).bind (·.zero) = some (.agg ⟨[.slice none 0 0, .slice none 0 0]⟩) := by kernel_rfl
theorem agg56 : aggB Try.prog 56 5 = true := by kernel_rfl
theorem zero56 : (Try.prog.info? 56).bind (·.zero) = some (.agg ⟨[.string ⟨⟨[]⟩⟩, .slice none 0 0, .int .u8 0, .int .i64 0, .slice none 0 0]⟩) := by kernel_rfl
theorem fa56_1 : faB Try.prog 56 1 1 2 = true := by kernel_rfl
theorem agg54 : aggB Try.prog 54 2 = true := by kernel_rfl
theorem zero54 : (Try.prog.info? 54).bind (·.zero) = some (.agg ⟨[.slice none 0 0, .int .u8 0]⟩) := by kernel_rfl
theorem fa54_0 : faB Try.prog 54 0 0 1 = true := by kernel_rfl
theorem nag51 : nagB Try.prog 51 = true := by kernel_rfl
theorem sl51 : slB Try.prog 51 52 1 1 (szB 1) = true := by kernel_rfl
theorem fn37 : fnB Try.prog 37 = true := by kernel_rfl
theorem sz51 : (Try.prog.info? 51).map (·.size) = some 1 := by kernel_rfl
theorem sz54 : (Try.prog.info? 54).map (·.size) = some 2 := by kernel_rfl
theorem fn35 : fnB Try.prog 35 = true := by kernel_rfl
theorem sl22 : slB Try.prog 22 5 1 1 (szB 1) = true := by kernel_rfl
theorem fn31 : fnB Try.prog 31 = true := by kernel_rfl
theorem sz22 : (Try.prog.info? 22).map (·.size) = some 1 := by kernel_rfl
theorem sz56 : (Try.prog.info? 56).map (·.size) = some 5 := by kernel_rfl
theorem fn24 : fnB Try.prog 24 = true := by kernel_rfl
theorem zero90 : (Try.prog.info? 90).bind (·.zero) = some (.agg ⟨[.int .i64 0, .int .u8 0, .int .i64 0, .int .i64 0]⟩) := by kernel_rfl
theorem agg90 : aggB Try.prog 90 4 = true := by kernel_rfl
theorem sz90 : (Try.prog.info? 90).map (·.size) = some 4 := by kernel_rfl
theorem nag5 : nagB Try.prog 5 = true := by kernel_rfl
theorem fn69 : fnB Try.prog 69 = true := by kernel_rfl
theorem fn51 : fnB Try.prog 51 = true := by kernel_rfl
theorem fn70 : fnB Try.prog 70 = true := by kernel_rfl
theorem pl90 : plB Try.prog 90 [(0, 1), (1, 1), (2, 1), (3, 1)] = true := by kernel_rfl
theorem mixed : Try.prog.follows .mixedOrders = true := by kernel_rfl
theorem fa90_2 : faB Try.prog 90 2 2 1 = true := by kernel_rfl
theorem nag3 : nagB Try.prog 3 = true := by kernel_rfl
theorem fn50 : fnB Try.prog 50 = true := by kernel_rfl
theorem sl67 : slB Try.prog 67 90 4 32 (szB 4) = true := by kernel_rfl
theorem fa90_1 : faB Try.prog 90 1 1 1 = true := by kernel_rfl
theorem fn26 : fnB Try.prog 26 = true := by kernel_rfl
theorem fn47 : fnB Try.prog 47 = true := by kernel_rfl
theorem fa90_0 : faB Try.prog 90 0 0 1 = true := by kernel_rfl
theorem fn48 : fnB Try.prog 48 = true := by kernel_rfl
theorem fn49 : fnB Try.prog 49 = true := by kernel_rfl
theorem fn25 : fnB Try.prog 25 = true := by kernel_rfl
theorem fa90_3 : faB Try.prog 90 3 3 1 = true := by kernel_rfl
theorem pl156 : plB Try.prog 156 [(0, 1), (1, 1), (2, 1), (3, 1)] = true := by kernel_rfl
theorem zero156 : (Try.prog.info? 156).bind (·.zero) = some (.agg ⟨[.int .u8 0, .int .i64 0, .int .i64 0, .int .i64 0]⟩) := by kernel_rfl
theorem sz156 : (Try.prog.info? 156).map (·.size) = some 4 := by kernel_rfl
theorem fa156_3 : faB Try.prog 156 3 3 1 = true := by kernel_rfl
theorem sz3 : (Try.prog.info? 3).map (·.size) = some 1 := by kernel_rfl
theorem fa156_1 : faB Try.prog 156 1 1 1 = true := by kernel_rfl
theorem agg156 : aggB Try.prog 156 4 = true := by kernel_rfl
theorem sl126 : slB Try.prog 126 156 4 32 (szB 4) = true := by kernel_rfl
theorem fn73 : fnB Try.prog 73 = true := by kernel_rfl
theorem fa156_0 : faB Try.prog 156 0 0 1 = true := by kernel_rfl
theorem sl93 : slB Try.prog 93 4 1 1 (szB 1) = true := by kernel_rfl
theorem zero4 : (Try.prog.info? 4).bind (·.zero) = some (.bool false) := by kernel_rfl
theorem nag4 : nagB Try.prog 4 = true := by kernel_rfl
theorem sz4 : (Try.prog.info? 4).map (·.size) = some 1 := by kernel_rfl
theorem fn78 : fnB Try.prog 78 = true := by kernel_rfl
theorem zero3 : (Try.prog.info? 3).bind (·.zero) = some (.int .i64 0) := by kernel_rfl
theorem fn103 : fnB Try.prog 103 = true := by kernel_rfl
theorem fn77 : fnB Try.prog 77 = true := by kernel_rfl
theorem fn76 : fnB Try.prog 76 = true := by kernel_rfl
theorem fn102 : fnB Try.prog 102 = true := by kernel_rfl
theorem fn117 : fnB Try.prog 117 = true := by kernel_rfl
theorem fn118 : fnB Try.prog 118 = true := by kernel_rfl
theorem fn104 : fnB Try.prog 104 = true := by kernel_rfl
theorem fn105 : fnB Try.prog 105 = true := by kernel_rfl
theorem fn75 : fnB Try.prog 75 = true := by kernel_rfl
theorem fn74 : fnB Try.prog 74 = true := by kernel_rfl
theorem fl156 : (Try.prog.fieldsOf 156).toList = [(⟨ "op", 5, 0, false, "", "proviso/provisoref19", 0⟩ : Field), (⟨ "a", 3, 1, false, "", "proviso/provisoref19", 8⟩ : Field), (⟨ "b", 3, 2, false, "", "proviso/provisoref19", 16⟩ : Field), (⟨ "to", 3, 3, false, "", "proviso/provisoref19", 24⟩ : Field)] := by kernel_rfl
theorem st156 : steB Try.prog 156 = true := by kernel_rfl
theorem fn79 : fnB Try.prog 79 = true := by kernel_rfl
theorem fa156_2 : faB Try.prog 156 2 2 1 = true := by kernel_rfl
theorem fn119 : fnB Try.prog 119 = true := by kernel_rfl
theorem fn120 : fnB Try.prog 120 = true := by kernel_rfl
theorem fn106 : fnB Try.prog 106 = true := by kernel_rfl
theorem fn80 : fnB Try.prog 80 = true := by kernel_rfl
theorem fn57 : fnB Try.prog 57 = true := by kernel_rfl
theorem pl56 : plB Try.prog 56 [(0, 1), (1, 2), (3, 1), (4, 1)] = true := by kernel_rfl
theorem fn29 : fnB Try.prog 29 = true := by kernel_rfl
theorem fn72 : fnB Try.prog 72 = true := by kernel_rfl
theorem fn53 : fnB Try.prog 53 = true := by kernel_rfl
theorem zero22 : (Try.prog.info? 22).bind (·.zero) = some (.slice none 0 0) := by kernel_rfl
theorem fn71 : fnB Try.prog 71 = true := by kernel_rfl
theorem fn52 : fnB Try.prog 52 = true := by kernel_rfl
theorem fn27 : fnB Try.prog 27 = true := by kernel_rfl
theorem key3 : Key Try.prog 3 (Value.int .i64) := Key.int Try.underlying3
theorem mz3 : (Try.prog.info? 3).bind (·.zero) = some ((Value.int .i64) (0 : Int)) := by kernel_rfl
theorem fn54 : fnB Try.prog 54 = true := by kernel_rfl
theorem fn55 : fnB Try.prog 55 = true := by kernel_rfl
theorem fn56 : fnB Try.prog 56 = true := by kernel_rfl
theorem fn28 : fnB Try.prog 28 = true := by kernel_rfl
theorem pl121 : plB Try.prog 121 [(0, 4), (4, 1), (5, 1)] = true := by kernel_rfl
theorem zero121 : (Try.prog.info? 121).bind (·.zero) = some (.agg ⟨[.int .i64 0, .int .u8 0, .int .i64 0, .int .i64 0, .int .i64 0, .bool false]⟩) := by kernel_rfl
theorem sz121 : (Try.prog.info? 121).map (·.size) = some 6 := by kernel_rfl
theorem fa121_1 : faB Try.prog 121 1 4 1 = true := by kernel_rfl
theorem agg121 : aggB Try.prog 121 6 = true := by kernel_rfl
theorem sl94 : slB Try.prog 94 121 6 48 (szB 6) = true := by kernel_rfl
theorem fn43 : fnB Try.prog 43 = true := by kernel_rfl
theorem sl96 : slB Try.prog 96 99 1 8 (szB 1) = true := by kernel_rfl
theorem fn44 : fnB Try.prog 44 = true := by kernel_rfl
theorem nag99 : nagB Try.prog 99 = true := by kernel_rfl
theorem fa121_0 : faB Try.prog 121 0 0 4 = true := by kernel_rfl
theorem fn93 : fnB Try.prog 93 = true := by kernel_rfl
theorem fn63 : fnB Try.prog 63 = true := by kernel_rfl
theorem fn46 : fnB Try.prog 46 = true := by kernel_rfl
theorem fn122 : fnB Try.prog 122 = true := by kernel_rfl
theorem fn114 : fnB Try.prog 114 = true := by kernel_rfl
theorem fn113 : fnB Try.prog 113 = true := by kernel_rfl
theorem fn94 : fnB Try.prog 94 = true := by kernel_rfl
theorem fa121_2 : faB Try.prog 121 2 5 1 = true := by kernel_rfl
theorem fn95 : fnB Try.prog 95 = true := by kernel_rfl
theorem fn64 : fnB Try.prog 64 = true := by kernel_rfl
theorem fn65 : fnB Try.prog 65 = true := by kernel_rfl
theorem nag94 : nagB Try.prog 94 = true := by kernel_rfl
theorem fn96 : fnB Try.prog 96 = true := by kernel_rfl
theorem zero93 : (Try.prog.info? 93).bind (·.zero) = some (.slice none 0 0) := by kernel_rfl
theorem sz93 : (Try.prog.info? 93).map (·.size) = some 1 := by kernel_rfl
theorem nag93 : nagB Try.prog 93 = true := by kernel_rfl
theorem fn97 : fnB Try.prog 97 = true := by kernel_rfl
theorem fn115 : fnB Try.prog 115 = true := by kernel_rfl
theorem fn116 : fnB Try.prog 116 = true := by kernel_rfl
theorem fn98 : fnB Try.prog 98 = true := by kernel_rfl
theorem fn99 : fnB Try.prog 99 = true := by kernel_rfl
theorem fn66 : fnB Try.prog 66 = true := by kernel_rfl
theorem fn67 : fnB Try.prog 67 = true := by kernel_rfl
theorem fn100 : fnB Try.prog 100 = true := by kernel_rfl
theorem fn101 : fnB Try.prog 101 = true := by kernel_rfl
theorem fn68 : fnB Try.prog 68 = true := by kernel_rfl
theorem fn45 : fnB Try.prog 45 = true := by kernel_rfl
theorem fn23 : fnB Try.prog 23 = true := by kernel_rfl
theorem fa56_0 : faB Try.prog 56 0 0 1 = true := by kernel_rfl
theorem nag9 : nagB Try.prog 9 = true := by kernel_rfl
theorem fa54_1 : faB Try.prog 54 1 1 1 = true := by kernel_rfl
theorem nag52 : nagB Try.prog 52 = true := by kernel_rfl
theorem fn59 : fnB Try.prog 59 = true := by kernel_rfl
theorem fn40 : fnB Try.prog 40 = true := by kernel_rfl
theorem fa56_2 : faB Try.prog 56 2 3 1 = true := by kernel_rfl
theorem fn32 : fnB Try.prog 32 = true := by kernel_rfl
theorem fn30 : fnB Try.prog 30 = true := by kernel_rfl
theorem fa32_0 : faB Try.prog 32 0 0 1 = true := by kernel_rfl
theorem nag29 : nagB Try.prog 29 = true := by kernel_rfl
theorem sl29 : slB Try.prog 29 22 1 24 (szB 1) = true := by kernel_rfl
theorem sz29 : (Try.prog.info? 29).map (·.size) = some 1 := by kernel_rfl
theorem fn13 : fnB Try.prog 13 = true := by kernel_rfl
theorem sz52 : (Try.prog.info? 52).map (·.size) = some 1 := by kernel_rfl
theorem fn33 : fnB Try.prog 33 = true := by kernel_rfl
theorem fa32_1 : faB Try.prog 32 1 1 1 = true := by kernel_rfl
theorem nag30 : nagB Try.prog 30 = true := by kernel_rfl
theorem sl30 : slB Try.prog 30 57 1 24 (szB 1) = true := by kernel_rfl
theorem nag57 : nagB Try.prog 57 = true := by kernel_rfl
theorem sz5 : (Try.prog.info? 5).map (·.size) = some 1 := by kernel_rfl
theorem fn34 : fnB Try.prog 34 = true := by kernel_rfl
theorem fn14 : fnB Try.prog 14 = true := by kernel_rfl
end Go.Proofs.Ytmeodoidfpcjlaa.Fx
