/- Facts of the program's tables. -/
import Derived.Test.YtmeodoidfpcjlaaGreatProg
import Derived.Test.YtmeodoidfpcjlaaGreatPvm
set_option linter.unusedVariables false
set_option linter.unusedSimpArgs false
namespace Go.Proofs.YtmeodoidfpcjlaaGreat.Fx
open Go Go.RowKit Go.Pv
theorem sl95 : slB Tryz.prog 95 3 1 8 (szB 1) = true := by kernel_rfl
theorem fn82 : fnB Tryz.prog 82 = true := by kernel_rfl
theorem agg26 : aggB Tryz.prog 26 4 = true := by kernel_rfl
theorem fa26_2 : faB Tryz.prog 26 2 2 1 = true := by kernel_rfl
theorem nag23 : nagB Tryz.prog 23 = true := by kernel_rfl
theorem sl23 : slB Tryz.prog 23 40 5 80 (szB 5) = true := by kernel_rfl
theorem agg40 : aggB Tryz.prog 40 5 = true := by kernel_rfl
theorem zero40 : (Tryz.prog.info? 40).bind (·.zero) = some (.agg ⟨[.string ⟨⟨[]⟩⟩, .slice none 0 0, .int .u8 0, .int .i64 0, .slice none 0 0]⟩) := by kernel_rfl
theorem sz40 : (Tryz.prog.info? 40).map (·.size) = some 5 := by kernel_rfl
theorem fa40_3 : faB Tryz.prog 40 3 4 1 = true := by kernel_rfl
theorem nag38 : nagB Tryz.prog 38 = true := by kernel_rfl
theorem fn4 : fnB Tryz.prog 4 = true := by kernel_rfl
theorem zero26 : (Tryz.prog.info? 26).bind (·.zero) = some (.agg ⟨[.string ⟨⟨[]⟩⟩, .slice none 0 0, .slice none 0 0, .slice none 0 0]⟩) := by kernel_rfl
theorem fa26_0 : faB Tryz.prog 26 0 0 1 = true := by kernel_rfl
theorem nag9 : nagB Tryz.prog 9 = true := by kernel_rfl
theorem fa26_1 : faB Tryz.prog 26 1 1 1 = true := by kernel_rfl
theorem nag22 : nagB Tryz.prog 22 = true := by kernel_rfl
theorem sl22 : slB Tryz.prog 22 46 3 48 (szB 3) = true := by kernel_rfl
theorem agg46 : aggB Tryz.prog 46 3 = true := by kernel_rfl
theorem zero46 : (Tryz.prog.info? 46).bind (·.zero) = some (.agg ⟨[.string ⟨⟨[]⟩⟩, .int .i64 0, .slice none 0 0]⟩) := by kernel_rfl
theorem sz46 : (Tryz.prog.info? 46).map (·.size) = some 3 := by kernel_rfl
theorem fa46_2 : faB Tryz.prog 46 2 2 1 = true := by kernel_rfl
theorem nag44 : nagB Tryz.prog 44 = true := by kernel_rfl
theorem sl44 : slB Tryz.prog 44 54 2 24 (szB 2) = true := by kernel_rfl
theorem fn17 : fnB Tryz.prog 17 = true := by kernel_rfl
theorem sz44 : (Tryz.prog.info? 44).map (·.size) = some 1 := by kernel_rfl
theorem fn9 : fnB Tryz.prog 9 = true := by kernel_rfl
theorem pl26 : plB Tryz.prog 26 [(0, 1), (1, 1), (2, 1), (3, 1)] = true := by kernel_rfl
theorem sz26 : (Tryz.prog.info? 26).map (·.size) = some 4 := by kernel_rfl
theorem mixed : Tryz.prog.follows .mixedOrders = true := by kernel_rfl
theorem fa40_1 : faB Tryz.prog 40 1 1 2 = true := by kernel_rfl
theorem agg37 : aggB Tryz.prog 37 2 = true := by kernel_rfl
theorem zero37 : (Tryz.prog.info? 37).bind (·.zero) = some (.agg ⟨[.slice none 0 0, .int .u8 0]⟩) := by kernel_rfl
theorem fa37_0 : faB Tryz.prog 37 0 0 1 = true := by kernel_rfl
theorem nag34 : nagB Tryz.prog 34 = true := by kernel_rfl
theorem sl34 : slB Tryz.prog 34 35 1 1 (szB 1) = true := by kernel_rfl
theorem fn27 : fnB Tryz.prog 27 = true := by kernel_rfl
theorem sz34 : (Tryz.prog.info? 34).map (·.size) = some 1 := by kernel_rfl
theorem sz37 : (Tryz.prog.info? 37).map (·.size) = some 2 := by kernel_rfl
theorem fn18 : fnB Tryz.prog 18 = true := by kernel_rfl
theorem sl38 : slB Tryz.prog 38 5 1 1 (szB 1) = true := by kernel_rfl
theorem fn11 : fnB Tryz.prog 11 = true := by kernel_rfl
theorem sz38 : (Tryz.prog.info? 38).map (·.size) = some 1 := by kernel_rfl
theorem fn10 : fnB Tryz.prog 10 = true := by kernel_rfl
theorem sz23 : (Tryz.prog.info? 23).map (·.size) = some 1 := by kernel_rfl
theorem fa26_3 : faB Tryz.prog 26 3 3 1 = true := by kernel_rfl
theorem nag24 : nagB Tryz.prog 24 = true := by kernel_rfl
theorem sl24 : slB Tryz.prog 24 38 1 24 (szB 1) = true := by kernel_rfl
theorem sz24 : (Tryz.prog.info? 24).map (·.size) = some 1 := by kernel_rfl
theorem fn5 : fnB Tryz.prog 5 = true := by kernel_rfl
theorem sz22 : (Tryz.prog.info? 22).map (·.size) = some 1 := by kernel_rfl
theorem zero79 : (Tryz.prog.info? 79).bind (·.zero) = some (.agg ⟨[.int .i64 0, .int .u8 0, .int .i64 0, .int .i64 0]⟩) := by kernel_rfl
theorem pl79 : plB Tryz.prog 79 [(0, 1), (1, 1), (2, 1), (3, 1)] = true := by kernel_rfl
theorem sz79 : (Tryz.prog.info? 79).map (·.size) = some 4 := by kernel_rfl
theorem agg79 : aggB Tryz.prog 79 4 = true := by kernel_rfl
theorem nag5 : nagB Tryz.prog 5 = true := by kernel_rfl
theorem fn57 : fnB Tryz.prog 57 = true := by kernel_rfl
theorem fn38 : fnB Tryz.prog 38 = true := by kernel_rfl
theorem zero38 : (Tryz.prog.info? 38).bind (·.zero) = some (.slice none 0 0) := by kernel_rfl
theorem fa79_1 : faB Tryz.prog 79 1 1 1 = true := by kernel_rfl
theorem fn70 : fnB Tryz.prog 70 = true := by kernel_rfl
theorem fa79_2 : faB Tryz.prog 79 2 2 1 = true := by kernel_rfl
theorem sz3 : (Tryz.prog.info? 3).map (·.size) = some 1 := by kernel_rfl
theorem fa79_3 : faB Tryz.prog 79 3 3 1 = true := by kernel_rfl
theorem nag3 : nagB Tryz.prog 3 = true := by kernel_rfl
theorem fn49 : fnB Tryz.prog 49 = true := by kernel_rfl
theorem sl67 : slB Tryz.prog 67 79 4 32 (szB 4) = true := by kernel_rfl
theorem fn28 : fnB Tryz.prog 28 = true := by kernel_rfl
theorem fa79_0 : faB Tryz.prog 79 0 0 1 = true := by kernel_rfl
theorem key3 : Key Tryz.prog 3 (Value.int .i64) := Key.int Tryz.underlying3
theorem mz3 : (Tryz.prog.info? 3).bind (·.zero) = some ((Value.int .i64) (0 : Int)) := by kernel_rfl
theorem fn29 : fnB Tryz.prog 29 = true := by kernel_rfl
theorem fn30 : fnB Tryz.prog 30 = true := by kernel_rfl
theorem fn31 : fnB Tryz.prog 31 = true := by kernel_rfl
theorem fn19 : fnB Tryz.prog 19 = true := by kernel_rfl
theorem pl40 : plB Tryz.prog 40 [(0, 1), (1, 2), (3, 1), (4, 1)] = true := by kernel_rfl
theorem pl83 : plB Tryz.prog 83 [(0, 4), (4, 1), (5, 1)] = true := by kernel_rfl
theorem zero83 : (Tryz.prog.info? 83).bind (·.zero) = some (.agg ⟨[.int .i64 0, .int .u8 0, .int .i64 0, .int .i64 0, .int .i64 0, .bool false]⟩) := by kernel_rfl
theorem sz83 : (Tryz.prog.info? 83).map (·.size) = some 6 := by kernel_rfl
theorem fa83_1 : faB Tryz.prog 83 1 4 1 = true := by kernel_rfl
theorem agg83 : aggB Tryz.prog 83 6 = true := by kernel_rfl
theorem sl58 : slB Tryz.prog 58 83 6 48 (szB 6) = true := by kernel_rfl
theorem fn20 : fnB Tryz.prog 20 = true := by kernel_rfl
theorem sl60 : slB Tryz.prog 60 63 1 8 (szB 1) = true := by kernel_rfl
theorem fn21 : fnB Tryz.prog 21 = true := by kernel_rfl
theorem nag63 : nagB Tryz.prog 63 = true := by kernel_rfl
theorem fa83_0 : faB Tryz.prog 83 0 0 4 = true := by kernel_rfl
theorem fn50 : fnB Tryz.prog 50 = true := by kernel_rfl
theorem fn32 : fnB Tryz.prog 32 = true := by kernel_rfl
theorem fn23 : fnB Tryz.prog 23 = true := by kernel_rfl
theorem fn81 : fnB Tryz.prog 81 = true := by kernel_rfl
theorem fn72 : fnB Tryz.prog 72 = true := by kernel_rfl
theorem fn71 : fnB Tryz.prog 71 = true := by kernel_rfl
theorem fn51 : fnB Tryz.prog 51 = true := by kernel_rfl
theorem fa83_2 : faB Tryz.prog 83 2 5 1 = true := by kernel_rfl
theorem sz4 : (Tryz.prog.info? 4).map (·.size) = some 1 := by kernel_rfl
theorem nag4 : nagB Tryz.prog 4 = true := by kernel_rfl
theorem zero3 : (Tryz.prog.info? 3).bind (·.zero) = some (.int .i64 0) := by kernel_rfl
theorem fn52 : fnB Tryz.prog 52 = true := by kernel_rfl
theorem fn33 : fnB Tryz.prog 33 = true := by kernel_rfl
theorem fn34 : fnB Tryz.prog 34 = true := by kernel_rfl
theorem nag58 : nagB Tryz.prog 58 = true := by kernel_rfl
theorem sl99 : slB Tryz.prog 99 4 1 1 (szB 1) = true := by kernel_rfl
theorem zero4 : (Tryz.prog.info? 4).bind (·.zero) = some (.bool false) := by kernel_rfl
theorem fn53 : fnB Tryz.prog 53 = true := by kernel_rfl
theorem zero99 : (Tryz.prog.info? 99).bind (·.zero) = some (.slice none 0 0) := by kernel_rfl
theorem sz99 : (Tryz.prog.info? 99).map (·.size) = some 1 := by kernel_rfl
theorem nag99 : nagB Tryz.prog 99 = true := by kernel_rfl
theorem fn54 : fnB Tryz.prog 54 = true := by kernel_rfl
theorem fn73 : fnB Tryz.prog 73 = true := by kernel_rfl
theorem fn74 : fnB Tryz.prog 74 = true := by kernel_rfl
theorem fn55 : fnB Tryz.prog 55 = true := by kernel_rfl
theorem fn56 : fnB Tryz.prog 56 = true := by kernel_rfl
theorem fn35 : fnB Tryz.prog 35 = true := by kernel_rfl
theorem fn36 : fnB Tryz.prog 36 = true := by kernel_rfl
theorem fn58 : fnB Tryz.prog 58 = true := by kernel_rfl
theorem fn59 : fnB Tryz.prog 59 = true := by kernel_rfl
theorem fn37 : fnB Tryz.prog 37 = true := by kernel_rfl
theorem fn22 : fnB Tryz.prog 22 = true := by kernel_rfl
theorem fn12 : fnB Tryz.prog 12 = true := by kernel_rfl
theorem fn6 : fnB Tryz.prog 6 = true := by kernel_rfl
theorem fn78 : fnB Tryz.prog 78 = true := by kernel_rfl
theorem fn68 : fnB Tryz.prog 68 = true := by kernel_rfl
theorem fn83 : fnB Tryz.prog 83 = true := by kernel_rfl
theorem fn75 : fnB Tryz.prog 75 = true := by kernel_rfl
theorem fn60 : fnB Tryz.prog 60 = true := by kernel_rfl
theorem fn61 : fnB Tryz.prog 61 = true := by kernel_rfl
theorem fn62 : fnB Tryz.prog 62 = true := by kernel_rfl
theorem fn63 : fnB Tryz.prog 63 = true := by kernel_rfl
theorem fn39 : fnB Tryz.prog 39 = true := by kernel_rfl
theorem pl111 : plB Tryz.prog 111 [(0, 1), (1, 1), (2, 1), (3, 1)] = true := by kernel_rfl
theorem zero111 : (Tryz.prog.info? 111).bind (·.zero) = some (.agg ⟨[.int .u8 0, .int .i64 0, .int .i64 0, .int .i64 0]⟩) := by kernel_rfl
theorem sz111 : (Tryz.prog.info? 111).map (·.size) = some 4 := by kernel_rfl
theorem fa111_3 : faB Tryz.prog 111 3 3 1 = true := by kernel_rfl
theorem fa111_1 : faB Tryz.prog 111 1 1 1 = true := by kernel_rfl
theorem agg111 : aggB Tryz.prog 111 4 = true := by kernel_rfl
theorem sl86 : slB Tryz.prog 86 111 4 32 (szB 4) = true := by kernel_rfl
theorem fn40 : fnB Tryz.prog 40 = true := by kernel_rfl
theorem fa111_0 : faB Tryz.prog 111 0 0 1 = true := by kernel_rfl
theorem fn45 : fnB Tryz.prog 45 = true := by kernel_rfl
theorem fn65 : fnB Tryz.prog 65 = true := by kernel_rfl
theorem fn44 : fnB Tryz.prog 44 = true := by kernel_rfl
theorem fn43 : fnB Tryz.prog 43 = true := by kernel_rfl
theorem fn64 : fnB Tryz.prog 64 = true := by kernel_rfl
theorem fn76 : fnB Tryz.prog 76 = true := by kernel_rfl
theorem fn77 : fnB Tryz.prog 77 = true := by kernel_rfl
theorem fn66 : fnB Tryz.prog 66 = true := by kernel_rfl
theorem fn67 : fnB Tryz.prog 67 = true := by kernel_rfl
theorem fn42 : fnB Tryz.prog 42 = true := by kernel_rfl
theorem fn41 : fnB Tryz.prog 41 = true := by kernel_rfl
theorem fl111 : (Tryz.prog.fieldsOf 111).toList = [(⟨ "op", 5, 0, false, "", "proviso/provisoref19", 0⟩ : Field), (⟨ "a", 3, 1, false, "", "proviso/provisoref19", 8⟩ : Field), (⟨ "b", 3, 2, false, "", "proviso/provisoref19", 16⟩ : Field), (⟨ "to", 3, 3, false, "", "proviso/provisoref19", 24⟩ : Field)] := by kernel_rfl
theorem st111 : steB Tryz.prog 111 = true := by kernel_rfl
theorem fn46 : fnB Tryz.prog 46 = true := by kernel_rfl
theorem fa111_2 : faB Tryz.prog 111 2 2 1 = true := by kernel_rfl
theorem fn79 : fnB Tryz.prog 79 = true := by kernel_rfl
theorem fn80 : fnB Tryz.prog 80 = true := by kernel_rfl
theorem fn69 : fnB Tryz.prog 69 = true := by kernel_rfl
theorem fn47 : fnB Tryz.prog 47 = true := by kernel_rfl
theorem fn24 : fnB Tryz.prog 24 = true := by kernel_rfl
theorem fn13 : fnB Tryz.prog 13 = true := by kernel_rfl
theorem fn7 : fnB Tryz.prog 7 = true := by kernel_rfl
theorem fa46_0 : faB Tryz.prog 46 0 0 1 = true := by kernel_rfl
theorem fa46_1 : faB Tryz.prog 46 1 1 1 = true := by kernel_rfl
theorem agg54 : aggB Tryz.prog 54 2 = true := by kernel_rfl
theorem nag35 : nagB Tryz.prog 35 = true := by kernel_rfl
theorem fl54 : (Tryz.prog.fieldsOf 54).toList = [(⟨ "Name", 9, 0, false, "", "", 0⟩ : Field), (⟨ "Type", 35, 1, false, "", "", 16⟩ : Field)] := by kernel_rfl
theorem st54 : steB Tryz.prog 54 = true := by kernel_rfl
theorem fn25 : fnB Tryz.prog 25 = true := by kernel_rfl
theorem fn14 : fnB Tryz.prog 14 = true := by kernel_rfl
theorem fa40_0 : faB Tryz.prog 40 0 0 1 = true := by kernel_rfl
theorem fa37_1 : faB Tryz.prog 37 1 1 1 = true := by kernel_rfl
theorem fn48 : fnB Tryz.prog 48 = true := by kernel_rfl
theorem fn26 : fnB Tryz.prog 26 = true := by kernel_rfl
theorem fa40_2 : faB Tryz.prog 40 2 3 1 = true := by kernel_rfl
theorem fn16 : fnB Tryz.prog 16 = true := by kernel_rfl
theorem fn15 : fnB Tryz.prog 15 = true := by kernel_rfl
theorem fn8 : fnB Tryz.prog 8 = true := by kernel_rfl
end Go.Proofs.YtmeodoidfpcjlaaGreat.Fx
