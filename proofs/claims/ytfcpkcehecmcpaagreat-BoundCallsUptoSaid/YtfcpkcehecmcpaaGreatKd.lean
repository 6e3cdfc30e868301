/- Texts merged (4). -/
import Derived.Test.YtfcpkcehecmcpaaGreatProg
import Derived.Test.YtfcpkcehecmcpaaGreatKc
set_option linter.unusedVariables false
set_option linter.unusedSimpArgs false
namespace Go.Proofs.YtfcpkcehecmcpaaGreat
open Go Go.RowKit Go.Pv Go.Proofs.Tryz
theorem Abt : slB prog 28 3 1 8 (szB 1) = true := by kernel_rfl
theorem A2z : fnB prog 49 = true := by kernel_rfl
theorem AJo : Anu prog 26 4 = true := by kernel_rfl
theorem Ard : (prog.info? 26).bind (·.zero) = some (.agg ⟨[.string ⟨⟨[]⟩⟩, .slice none 0 0, .slice none 0 0, .slice none 0 0]⟩) := by kernel_rfl
theorem Am7 : An6 prog 9 = true := by kernel_rfl
theorem AAl : An6 prog 22 = true := by kernel_rfl
theorem Af2 : slB prog 22 103 3 48 (szB 3) = true := by kernel_rfl
theorem Avm : Anu prog 103 3 = true := by kernel_rfl
theorem Awt : (prog.info? 103).bind (·.zero) = some (.agg ⟨[.string ⟨⟨[]⟩⟩, .int .i64 0, .slice none 0 0]⟩) := by kernel_rfl
theorem Az5 : (prog.info? 103).map (·.size) = some 3 := by kernel_rfl
theorem Ap4 : faB prog 103 2 2 1 = true := by kernel_rfl
theorem Arj : An6 prog 101 = true := by kernel_rfl
theorem Aks : slB prog 101 106 2 24 (szB 2) = true := by kernel_rfl
theorem ABk : (prog.info? 101).map (·.size) = some 1 := by kernel_rfl
theorem ACw : plB prog 26 [(0, 1), (1, 1), (2, 1), (3, 1)] = true := by kernel_rfl
theorem A6w : (prog.info? 26).map (·.size) = some 4 := by kernel_rfl
theorem Abj : prog.follows .mixedOrders = true := by kernel_rfl
theorem Api : slB prog 23 52 5 80 (szB 5) = true := by kernel_rfl
theorem As8 : Anu prog 52 5 = true := by kernel_rfl
theorem Avu : (prog.info? 52).bind (·.zero) = some (.agg ⟨[.string ⟨⟨[]⟩⟩, .slice none 0 0, .int .u8 0, .int .i64 0, .slice none 0 0]⟩) := by kernel_rfl
theorem Ayz : (prog.info? 52).map (·.size) = some 5 := by kernel_rfl
theorem AGu : faB prog 52 1 1 2 = true := by kernel_rfl
theorem Aot : Anu prog 50 2 = true := by kernel_rfl
theorem Ars : (prog.info? 50).bind (·.zero) = some (.agg ⟨[.slice none 0 0, .int .u8 0]⟩) := by kernel_rfl
theorem Atk : faB prog 50 0 0 1 = true := by kernel_rfl
theorem As9 : An6 prog 47 = true := by kernel_rfl
theorem Abp : slB prog 47 48 1 1 (szB 1) = true := by kernel_rfl
theorem ALn : (prog.info? 47).map (·.size) = some 1 := by kernel_rfl
theorem Awz : (prog.info? 50).map (·.size) = some 2 := by kernel_rfl
theorem AGo : faB prog 52 3 4 1 = true := by kernel_rfl
theorem A0h : An6 prog 42 = true := by kernel_rfl
theorem Agm : slB prog 42 5 1 1 (szB 1) = true := by kernel_rfl
theorem A64 : (prog.info? 42).map (·.size) = some 1 := by kernel_rfl
theorem AKy : (prog.info? 23).map (·.size) = some 1 := by kernel_rfl
theorem Awv : slB prog 24 42 1 24 (szB 1) = true := by kernel_rfl
theorem AK2 : (prog.info? 24).map (·.size) = some 1 := by kernel_rfl
theorem Aj5 : (prog.info? 110).bind (·.zero) = some (.agg ⟨[.slice none 0 0, .slice none 0 0, .int .i64 0]⟩) := by kernel_rfl
theorem Auz : plB prog 110 [(0, 1), (1, 1), (2, 1)] = true := by kernel_rfl
theorem Aoq : (prog.info? 110).map (·.size) = some 3 := by kernel_rfl
theorem Art : Anu prog 110 3 = true := by kernel_rfl
theorem AK7 : (prog.info? 22).map (·.size) = some 1 := by kernel_rfl
theorem A1g : faB prog 50 1 1 1 = true := by kernel_rfl
theorem Acy : An6 prog 48 = true := by kernel_rfl
theorem ADj : plB prog 50 [(0, 1), (1, 1)] = true := by kernel_rfl
theorem Ahb : slB prog 108 50 2 32 (szB 2) = true := by kernel_rfl
theorem A9q : (prog.info? 108).map (·.size) = some 1 := by kernel_rfl
theorem Acx : An6 prog 3 = true := by kernel_rfl
theorem Ap8 : faB prog 103 0 0 1 = true := by kernel_rfl
theorem Au2 : slB prog 218 9 1 16 (szB 1) = true := by kernel_rfl
theorem AIb : fnB prog 155 = true := by kernel_rfl
theorem Aln : faB prog 103 1 1 1 = true := by kernel_rfl
theorem ADy : (prog.info? 218).bind (·.zero) = some (.slice none 0 0) := by kernel_rfl
theorem Avs : Anu prog 106 2 = true := by kernel_rfl
theorem Azz : (prog.info? 106).bind (·.zero) = some (.agg ⟨[.string ⟨⟨[]⟩⟩, .int .u8 0]⟩) := by kernel_rfl
theorem A4z : (prog.info? 106).map (·.size) = some 2 := by kernel_rfl
theorem A6j : faB prog 106 0 0 1 = true := by kernel_rfl
theorem AA9 : (prog.info? 218).map (·.size) = some 1 := by kernel_rfl
theorem AJn : fnB prog 180 = true := by kernel_rfl
theorem Azj : faB prog 106 1 1 1 = true := by kernel_rfl
theorem AAa : fnB prog 128 = true := by kernel_rfl
theorem Ol : (prog.info? 118).bind (·.zero) = some (.agg ⟨(.int .i64 0 :: .int .i64 0 :: XK (Vector.replicate 24 (0 : UInt8)))⟩) := by kernel_rfl
theorem Adw : plB prog 118 [(0, 1), (1, 1), (2, 24)] = true := by kernel_rfl
theorem Aay : (prog.info? 118).map (·.size) = some 26 := by kernel_rfl
theorem Aa9 : Anu prog 118 26 = true := by kernel_rfl
theorem Ae9 : arB prog 116 48 24 1 = true := by kernel_rfl
theorem Apn : (prog.info? 48).map (·.size) = some 1 := by kernel_rfl
theorem Ak2 : Key prog 3 (Value.int .i64) := Key.int underlying3
theorem Azl : (prog.info? 179).bind (·.zero) = some (.agg ⟨[]⟩) := by kernel_rfl
theorem A4n : plB prog 179 [] = true := by kernel_rfl
theorem AH0 : plB prog 154 [(0, 3), (3, 1), (4, 1), (5, 1), (6, 1), (7, 1)] = true := by kernel_rfl
theorem AEd : (prog.info? 154).bind (·.zero) = some (.agg ⟨[.slice none 0 0, .slice none 0 0, .int .i64 0, .slice none 0 0, .map none, .map none, .map none, .int .i64 0]⟩) := by kernel_rfl
theorem Anj : (prog.info? 3).map (·.size) = some 1 := by kernel_rfl
theorem Agp : (prog.info? 79).bind (·.zero) = some (.agg ⟨[.int .i64 0, .int .u8 0, .int .i64 0, .int .i64 0]⟩) := by kernel_rfl
theorem A3b : plB prog 79 [(0, 1), (1, 1), (2, 1), (3, 1)] = true := by kernel_rfl
theorem Af1 : (prog.info? 79).map (·.size) = some 4 := by kernel_rfl
theorem Agw : Anu prog 79 4 = true := by kernel_rfl
theorem Ase : An6 prog 5 = true := by kernel_rfl
theorem AHa : (prog.info? 42).bind (·.zero) = some (.slice none 0 0) := by kernel_rfl
theorem AGm : faB prog 79 1 1 1 = true := by kernel_rfl
theorem ADh : fnB prog 75 = true := by kernel_rfl
theorem AGt : faB prog 79 2 2 1 = true := by kernel_rfl
theorem AG9 : faB prog 79 0 0 1 = true := by kernel_rfl
theorem AK3 : fnB prog 74 = true := by kernel_rfl
theorem AM0 : (prog.info? 3).bind (·.zero) = some ((Value.int .i64) (0 : Int)) := by kernel_rfl
theorem A4j : (prog.info? 118).bind (·.zero) = some (.agg ⟨(.int .i64 0 :: .int .i64 0 :: XK (Vector.replicate 24 (0 : UInt8)))⟩) := by kernel_rfl
theorem ABg : fnB prog 182 = true := by kernel_rfl
theorem A5n : faB prog 118 1 1 1 = true := by kernel_rfl
theorem AA6 : fnB prog 183 = true := by kernel_rfl
theorem AIi : fnB prog 184 = true := by kernel_rfl
theorem A6v : prog.cellsOf 48 = 1 := by kernel_rfl
theorem Arc : Anu prog 116 24 = true := by kernel_rfl
theorem A4u : (prog.fieldsOf 118).toList = [(⟨ "Locals", 3, 0, false, "", "", 0⟩ : Field), (⟨ "Height", 3, 1, false, "", "", 8⟩ : Field), (⟨ "Slots", 116, 2, false, "", "", 16⟩ : Field)] := by kernel_rfl
theorem Au6 : A7w prog 118 = true := by kernel_rfl
theorem Aeo : (prog.info? 226).bind (·.zero) = some (.agg ⟨[.slice none 0 0, .nilFunc]⟩) := by kernel_rfl
theorem Ai2 : plB prog 226 [(0, 1), (1, 1)] = true := by kernel_rfl
theorem Ahy : (prog.info? 226).map (·.size) = some 2 := by kernel_rfl
theorem Ag1 : Anu prog 226 2 = true := by kernel_rfl
theorem A6c : (prog.info? 249).bind (·.zero) = some (.agg ⟨[.nilFunc, .nilFunc, .nilFunc, .nilFunc, .nilFunc, .nilFunc, .nilFunc, .nilFunc, .nilFunc, .nilFunc, .nilFunc, .nilFunc, .nilFunc, .nilFunc, .nilFunc, .nilFunc, .nilFunc, .nilFunc, .nilFunc, .nilFunc, .nilFunc, .nilFunc, .nilFunc, .nilFunc, .nilFunc, .nilFunc, .nilFunc, .nilFunc, .nilFunc, .nilFunc, .nilFunc, .nilFunc, .nilFunc, .nilFunc]⟩) := by kernel_rfl
theorem Ag5 : (prog.info? 253).bind (·.zero) = some (.agg ⟨[.int .i64 0, .int .u8 0]⟩) := by kernel_rfl
theorem Amk : plB prog 253 [(0, 1), (1, 1)] = true := by kernel_rfl
theorem A0j : (prog.info? 253).map (·.size) = some 2 := by kernel_rfl
theorem A8n : Anu prog 253 2 = true := by kernel_rfl
theorem Aea : slB prog 224 253 2 16 (szB 2) = true := by kernel_rfl
theorem Aey : fnB prog 201 = true := by kernel_rfl
theorem AD6 : (prog.info? 142).bind (·.zero) = some (.nilFunc) := by kernel_rfl
theorem AIs : (prog.info? 142).map (·.size) = some 1 := by kernel_rfl
theorem A8i : An6 prog 142 = true := by kernel_rfl
theorem Ae8 : fnB prog 202 = true := by kernel_rfl
theorem Ad3 : arB prog 249 248 34 1 = true := by kernel_rfl
theorem Ad5 : (prog.info? 248).map (·.size) = some 1 := by kernel_rfl
theorem A4v : fnB prog 208 = true := by kernel_rfl
theorem AA0 : fnB prog 209 = true := by kernel_rfl
theorem A8z : Anu prog 249 34 = true := by kernel_rfl
theorem AH2 : (prog.info? 249).map (·.size) = some 34 := by kernel_rfl
theorem AHy : fnB prog 185 = true := by kernel_rfl
theorem AF6 : An6 prog 248 = true := by kernel_rfl
theorem A6x : An6 prog 4 = true := by kernel_rfl
theorem AGc : (prog.info? 28).bind (·.zero) = some (.slice none 0 0) := by kernel_rfl
theorem AK8 : (prog.info? 28).map (·.size) = some 1 := by kernel_rfl
theorem AHw : fnB prog 100 = true := by kernel_rfl
theorem Ad9 : (prog.info? 4).bind (·.zero) = some (.bool false) := by kernel_rfl
theorem Avx : (prog.info? 4).map (·.size) = some 1 := by kernel_rfl
theorem AIx : fnB prog 219 = true := by kernel_rfl
theorem AH1 : fnB prog 187 = true := by kernel_rfl
theorem ACn : fnB prog 50 = true := by kernel_rfl
theorem AEy : (prog.info? 48).bind (·.zero) = some (.int .u8 0) := by kernel_rfl
theorem Agu : (prog.info? 3).bind (·.zero) = some (.int .i64 0) := by kernel_rfl
theorem AI2 : fnB prog 212 = true := by kernel_rfl
theorem AKl : fnB prog 73 = true := by kernel_rfl
theorem AJq : fnB prog 106 = true := by kernel_rfl
theorem AJs : fnB prog 107 = true := by kernel_rfl
theorem ALd : fnB prog 72 = true := by kernel_rfl
theorem AAg : plB prog 120 [(0, 1), (1, 1), (2, 26)] = true := by kernel_rfl
theorem Azm : (prog.info? 120).bind (·.zero) = some (.agg ⟨(.int .i64 0 :: .bool false :: .int .i64 0 :: .int .i64 0 :: XK (Vector.replicate 24 (0 : UInt8)))⟩) := by kernel_rfl
theorem Arb : slB prog 113 120 28 56 (szB 28) = true := by kernel_rfl
theorem AKe : plB prog 81 [(0, 1), (1, 1)] = true := by kernel_rfl
theorem AG1 : (prog.info? 81).bind (·.zero) = some (.agg ⟨[.slice none 0 0, .int .i64 0]⟩) := by kernel_rfl
theorem AE4 : Anu prog 120 28 = true := by kernel_rfl
theorem AIn : (prog.info? 120).map (·.size) = some 28 := by kernel_rfl
theorem AEa : faB prog 120 0 0 1 = true := by kernel_rfl
theorem Am6 : slB prog 75 79 4 32 (szB 4) = true := by kernel_rfl
theorem AKg : (prog.info? 75).map (·.size) = some 1 := by kernel_rfl
theorem A6a : faB prog 120 2 2 26 = true := by kernel_rfl
theorem Ad2 : slB prog 44 4 1 1 (szB 1) = true := by kernel_rfl
theorem A5c : fnB prog 169 = true := by kernel_rfl
theorem AJm : fnB prog 120 = true := by kernel_rfl
theorem ALl : fnB prog 81 = true := by kernel_rfl
theorem Af5 : slB prog 162 118 26 40 (szB 26) = true := by kernel_rfl
theorem A94 : plB prog 164 [(0, 1), (1, 1), (2, 1), (3, 1)] = true := by kernel_rfl
theorem Afw : (prog.info? 164).bind (·.zero) = some (.agg ⟨[.slice none 0 0, .slice none 0 0, .slice none 0 0, .slice none 0 0]⟩) := by kernel_rfl
theorem AHt : (prog.info? 164).map (·.size) = some 4 := by kernel_rfl
theorem ALg : fnB prog 84 = true := by kernel_rfl
theorem AHq : (prog.fieldsOf 106).toList = [(⟨ "Name", 9, 0, false, "", "", 0⟩ : Field), (⟨ "Type", 48, 1, false, "", "", 16⟩ : Field)] := by kernel_rfl
theorem ABa : A7w prog 106 = true := by kernel_rfl
theorem AKu : fnB prog 53 = true := by kernel_rfl
theorem AKv : fnB prog 32 = true := by kernel_rfl
theorem AK5 : fnB prog 33 = true := by kernel_rfl
theorem ALi : fnB prog 92 = true := by kernel_rfl
theorem AIh : fnB prog 214 = true := by kernel_rfl
theorem AH6 : fnB prog 203 = true := by kernel_rfl
theorem AIv : fnB prog 204 = true := by kernel_rfl
theorem AJe : fnB prog 215 = true := by kernel_rfl
theorem AJh : fnB prog 205 = true := by kernel_rfl
theorem AHo : fnB prog 206 = true := by kernel_rfl
theorem AHu : fnB prog 216 = true := by kernel_rfl
theorem AHs : fnB prog 218 = true := by kernel_rfl
end Go.Proofs.YtfcpkcehecmcpaaGreat
namespace Go.Proofs.YtfcpkcehecmcpaaGreat
open Go Go.RowKit Go.Pv Go.Proofs.Tryz
def tab : Tab := ⟨[(26, 0, 0, 1), (26, 1, 1, 1), (26, 2, 2, 1), (26, 3, 3, 1), (50, 0, 0, 1), (50, 1, 1, 1), (52, 0, 0, 1), (52, 1, 1, 2), (52, 2, 3, 1), (52, 3, 4, 1), (79, 0, 0, 1), (79, 1, 1, 1), (79, 2, 2, 1), (79, 3, 3, 1), (81, 0, 0, 1), (81, 1, 1, 1), (103, 0, 0, 1), (103, 1, 1, 1), (103, 2, 2, 1), (106, 0, 0, 1), (106, 1, 1, 1), (110, 0, 0, 1), (110, 1, 1, 1), (110, 2, 2, 1), (118, 0, 0, 1), (118, 1, 1, 1), (118, 2, 2, 24), (120, 0, 0, 1), (120, 2, 2, 26), (154, 0, 0, 3), (154, 1, 3, 1), (154, 2, 4, 1), (154, 3, 5, 1), (154, 4, 6, 1), (154, 5, 7, 1), (164, 0, 0, 1), (164, 1, 1, 1), (164, 2, 2, 1), (164, 3, 3, 1), (226, 0, 0, 1), (226, 1, 1, 1), (253, 0, 0, 1), (253, 1, 1, 1)], [8, 9, 10, 11, 12, 13, 14, 15, 16, 17, 18, 23, 24, 25, 26, 27, 28, 29, 30, 31, 33, 34, 35, 36, 44, 45, 46, 47, 48, 51, 52, 54, 55, 56, 57, 58, 59, 60, 67, 70, 71, 74, 75, 76, 79, 80, 81, 82, 83, 84, 85, 86, 87, 88, 89, 90, 91, 92, 93, 94, 99, 100, 101, 103, 104, 105, 119, 121, 122, 123, 124, 125, 126, 127, 128, 129, 130, 131, 132, 133, 134, 135, 143, 144, 145, 146, 147, 148, 149, 150, 151, 152, 153, 154, 155, 156, 157, 158, 159, 160, 161, 162, 163, 164, 165, 167, 168, 170, 171, 172, 173, 174, 175, 176, 177, 178, 179, 180, 181, 182, 183, 184, 186, 188, 189, 190, 191, 192, 193, 194, 195, 196, 197, 198, 199, 200, 207, 210, 211, 212, 213, 217, 219], [3, 4, 5, 9, 22, 23, 24, 28, 42, 44, 47, 48, 75, 101, 108, 142, 150, 151, 152, 162, 218, 224, 248], [(26, 4), (50, 2), (52, 5), (79, 4), (103, 3), (106, 2), (110, 3), (116, 24), (118, 26), (120, 28), (164, 4), (226, 2), (249, 34), (253, 2)]⟩
instance : App prog := ⟨tab, by kernel_rfl⟩
end Go.Proofs.YtfcpkcehecmcpaaGreat
namespace Go.Proofs.YtfcpkcehecmcpaaGreat
end Go.Proofs.YtfcpkcehecmcpaaGreat
namespace Go.Proofs.YtfcpkcehecmcpaaGreat
open Go Go.RowKit Go.Pv Go.Proofs.Tryz Go.Shelf Go.Proofs
def A86 : Go.Shelf.Ren := ⟨fun | 189 => 49 | 125 => 78 | 257 => 77 | 128 => 117 | 129 => 118 | 294 => 108 | 295 => 109 | 296 => 110 | 297 => 111 | 298 => 112 | 299 => 113 | 216 => 114 | 300 => 115 | 301 => 116 | 328 => 137 | 329 => 138 | 330 => 139 | 331 => 140 | 332 => 141 | 215 => 142 | 343 => 166 | n => n, fun | 28 => 28 | 3 => 3 | 46 => 41 | 0 => 0 | 51 => 191 | 53 => 193 | 4 => 4 | 183 => 183 | 182 => 182 | 131 => 188 | 5 => 5 | 9 => 9 | 218 => 205 | 222 => 209 | 228 => 235 | 229 => 156 | n => n, fun | n => n⟩
theorem Ax8 : Go.Proofs.Lays.n189 prog A86 where
 mixed := by kernel_rfl
 f125 := func78.trans (congrArg some (by kernel_rfl))
 f128 := func117.trans (congrArg some (by kernel_rfl))
 f129 := func118.trans (congrArg some (by kernel_rfl))
 f189 := func49.trans (congrArg some (by kernel_rfl))
 f215 := func142.trans (congrArg some (by kernel_rfl))
 f216 := func114.trans (congrArg some (by kernel_rfl))
 f257 := func77.trans (congrArg some (by kernel_rfl))
 f294 := func108.trans (congrArg some (by kernel_rfl))
 f295 := func109.trans (congrArg some (by kernel_rfl))
 f296 := func110.trans (congrArg some (by kernel_rfl))
 f297 := func111.trans (congrArg some (by kernel_rfl))
 f298 := func112.trans (congrArg some (by kernel_rfl))
 f299 := func113.trans (congrArg some (by kernel_rfl))
 f300 := func115.trans (congrArg some (by kernel_rfl))
 f301 := func116.trans (congrArg some (by kernel_rfl))
 f328 := func137.trans (congrArg some (by kernel_rfl))
 f329 := func138.trans (congrArg some (by kernel_rfl))
 f330 := func139.trans (congrArg some (by kernel_rfl))
 f331 := func140.trans (congrArg some (by kernel_rfl))
 f332 := func141.trans (congrArg some (by kernel_rfl))
 f343 := func166.trans (congrArg some (by kernel_rfl))
 t0 := underlying0
 a0 := Tryz.isAgg0
 z0 := Tryz.sizeOf0
 v0 := Tryz.zeroValue0
 t3 := underlying3
 a3 := Tryz.isAgg3
 z3 := Tryz.sizeOf3
 v3 := Tryz.zeroValue3
 t4 := underlying4
 a4 := Tryz.isAgg4
 z4 := Tryz.sizeOf4
 v4 := Tryz.zeroValue4
 t5 := underlying5
 a5 := Tryz.isAgg5
 z5 := Tryz.sizeOf5
 v5 := Tryz.zeroValue5
 t9 := underlying9
 a9 := Tryz.isAgg9
 z9 := Tryz.sizeOf9
 v9 := Tryz.zeroValue9
 t28 := underlying28
 a28 := Tryz.isAgg28
 z28 := Tryz.sizeOf28
 v28 := Tryz.zeroValue28
 t46 := underlying41
 a46 := Tryz.isAgg41
 z46 := Tryz.sizeOf41
 v46 := Tryz.zeroValue41
 t51 := underlying191
 a51 := Tryz.isAgg191
 z51 := Tryz.sizeOf191
 v51 := Tryz.zeroValue191
 t53 := underlying193
 a53 := Tryz.isAgg193
 z53 := Tryz.sizeOf193
 v53 := Tryz.zeroValue193
 t131 := underlying188
 a131 := Tryz.isAgg188
 z131 := Tryz.sizeOf188
 v131 := Tryz.zeroValue188
 t182 := underlying182
 a182 := Tryz.isAgg182
 z182 := Tryz.sizeOf182
 v182 := Tryz.zeroValue182
 t183 := underlying183
 a183 := Tryz.isAgg183
 z183 := Tryz.sizeOf183
 v183 := Tryz.zeroValue183
 t218 := underlying205
 a218 := Tryz.isAgg205
 z218 := Tryz.sizeOf205
 v218 := Tryz.zeroValue205
 t222 := underlying209
 a222 := Tryz.isAgg209
 z222 := Tryz.sizeOf209
 v222 := Tryz.zeroValue209
 t228 := underlying235
 a228 := Tryz.isAgg235
 z228 := Tryz.sizeOf235
 v228 := Tryz.zeroValue235
 t229 := underlying156
 a229 := Tryz.isAgg156
 z229 := Tryz.sizeOf156
 v229 := Tryz.zeroValue156
def A43 : Go.Shelf.Ren := ⟨fun | 20 => 50 | n => n, fun | 22 => 28 | 3 => 3 | 4 => 4 | 0 => 0 | n => n, fun | n => n⟩
theorem A00 : Go.Proofs.Lays2.n20 prog A43 where
 mixed := by kernel_rfl
 f20 := func50.trans (congrArg some (by kernel_rfl))
 t0 := underlying0
 a0 := Tryz.isAgg0
 z0 := Tryz.sizeOf0
 v0 := Tryz.zeroValue0
 t3 := underlying3
 a3 := Tryz.isAgg3
 z3 := Tryz.sizeOf3
 v3 := Tryz.zeroValue3
 t4 := underlying4
 a4 := Tryz.isAgg4
 z4 := Tryz.sizeOf4
 v4 := Tryz.zeroValue4
 t22 := underlying28
 a22 := Tryz.isAgg28
 z22 := Tryz.sizeOf28
 v22 := Tryz.zeroValue28
 i3 := by kernel_rfl
def A59 : Go.Shelf.Ren := ⟨fun | 7 => 73 | 10 => 107 | n => n, fun | 23 => 150 | 26 => 3 | 3 => 118 | 28 => 148 | 0 => 0 | 27 => 147 | 33 => 89 | 4 => 4 | n => n, fun | n => n⟩
theorem A3r : Go.Proofs.SlLaysZI.n7 prog A59 where
 mixed := by kernel_rfl
 f7 := ⟨"maps.Keys[map[int]proviso/api.Frame,int,proviso/api.Frame]", by decide, func73.trans (congrArg some (by kernel_rfl))⟩
 f10 := ⟨"maps.Keys[map[int]proviso/api.Frame,int,proviso/api.Frame]$1", by decide, func107.trans (congrArg some (by kernel_rfl))⟩
 t0 := underlying0
 a0 := Tryz.isAgg0
 z0 := Tryz.sizeOf0
 v0 := Tryz.zeroValue0
 t4 := underlying4
 a4 := Tryz.isAgg4
 z4 := Tryz.sizeOf4
 v4 := Tryz.zeroValue4
 t23 := underlying150
 a23 := Tryz.isAgg150
 z23 := Tryz.sizeOf150
 v23 := Tryz.zeroValue150
 t26 := underlying3
 a26 := Tryz.isAgg3
 z26 := Tryz.sizeOf3
 v26 := Tryz.zeroValue3
 t27 := underlying147
 a27 := Tryz.isAgg147
 z27 := Tryz.sizeOf147
 v27 := Tryz.zeroValue147
 t28 := underlying148
 a28 := Tryz.isAgg148
 z28 := Tryz.sizeOf148
 v28 := Tryz.zeroValue148
 t33 := underlying89
 a33 := Tryz.isAgg89
 z33 := Tryz.sizeOf89
 v33 := Tryz.zeroValue89
def A5w : Go.Shelf.Ren := ⟨fun | 6 => 72 | 8 => 106 | 9 => 49 | 11 => 136 | 13 => 78 | 12 => 77 | 23 => 117 | 24 => 118 | 14 => 108 | 15 => 109 | 16 => 110 | 17 => 111 | 18 => 112 | 19 => 113 | 20 => 114 | 21 => 115 | 22 => 116 | 25 => 137 | 26 => 138 | 27 => 139 | 28 => 140 | 29 => 141 | 30 => 142 | 31 => 166 | n => n, fun | 26 => 3 | 28 => 148 | 24 => 28 | 0 => 0 | 3 => 3 | 37 => 41 | 48 => 191 | 50 => 193 | 4 => 4 | 40 => 183 | 39 => 182 | 45 => 188 | 5 => 5 | 9 => 9 | 51 => 205 | 55 => 209 | 57 => 235 | 58 => 156 | 33 => 89 | n => n, fun | n => n⟩
theorem ABz : Go.Proofs.SlLaysZI.n6 prog A5w where
 mixed := by kernel_rfl
 f6 := ⟨"slices.Sorted[int]", by decide, func72.trans (congrArg some (by kernel_rfl))⟩
 f8 := ⟨"slices.Collect[int]", by decide, func106.trans (congrArg some (by kernel_rfl))⟩
 f11 := ⟨"slices.AppendSeq[[]int,int]", by decide, func136.trans (congrArg some (by kernel_rfl))⟩
 t0 := underlying0
 a0 := Tryz.isAgg0
 z0 := Tryz.sizeOf0
 v0 := Tryz.zeroValue0
 t24 := underlying28
 a24 := Tryz.isAgg28
 z24 := Tryz.sizeOf28
 v24 := Tryz.zeroValue28
 t26 := underlying3
 a26 := Tryz.isAgg3
 z26 := Tryz.sizeOf3
 v26 := Tryz.zeroValue3
 t28 := underlying148
 a28 := Tryz.isAgg148
 z28 := Tryz.sizeOf148
 v28 := Tryz.zeroValue148
 i26 := by kernel_rfl
end Go.Proofs.YtfcpkcehecmcpaaGreat
namespace Go.Proofs.YtfcpkcehecmcpaaGreat
open Go Go.RowKit Go.Pv Go.Proofs.Tryz
open Go.Pv renaming bind_ok → Aa, A4c → Ab, Axz → Ae, A42 → Af, Azp → Ag, ABh → Ah, Ayd → Ai, AAu → Aj, Aqk → Ak, A5f → Al, A5q → An, A7b → Ap, A46 → Aq, Ats → Ar, Awy → As, A7c → Au, Au3 → Av, Auf → Aw, A63 → Ax, Axq → Ay, Ar2 → Az, A6m → Ba, A44 → Bc, Az2 → Bd, bool_split → Be, A6u → Bf, Aya → Bg, Av3 → Bh, A5j → Bi, Axf → Bj, Ax2 → Bk
open Nat renaming le_of_ble_eq_true → Ac
open Bool renaming noConfusion → Ad
open Go.Pv.RV renaming blk → Am, tmp → Ao
open Go.Pv.QR renaming nil → Bb
theorem Ayh {w : World} {v0 v1 : Value} {a0 : List Int} {a1 : List Int} {r : Bool} (hr0 : Rd (Ty.int .i64) w [] v0 a0) (hr1 : Rd (Ty.int .i64) w [] v1 a1) (H : Akr a0 a1 = some r) :
    Calls prog 11 #[v0, v1] w (Ret fun u_ w_ => u_ = .bool r ∧ SL w [] w_ []) := by
 have s0 : SL w [] w [] := SL.Abr w
 refine cin func11 ntmps11 9 rfl rfl rfl fun _ F => ?_
 unfold Akr at H
 refine gx F (Ah rfl underlying28 (fR hr0 s0)) 1 rfl rfl fun _ F => gx F (Ah rfl underlying28 (fR hr1 s0)) 3 rfl rfl fun _ F => Ll F H 7 6 rfl rfl rfl (fun h0 H _ F => ?_) (fun h0 H _ F => ?_)
 ·cases H
  exact rt F ⟨rfl, s0⟩
 obtain ⟨o0, H0, R0⟩ := Aa H
 clear H
 refine gx F (Ah rfl underlying28 (fR hr0 s0)) 3 rfl rfl fun _ F => Acs (fun a w_ => ∃ p0 : Unit, o0 = .inr (p0) ∧ Fr a 26 [] ∧ SL w [] w_ []) ?_ ?_
 ·have H := H0
  refine gc 1 F rfl fun _ F => lpk (Ahs a0 a1) (fun s1 a w_ => Fr a 26 [(0, v0), (1, v1), (12, jI (a0.length : Int)), (13, jI s1)] ∧ SL w [] w_ []) H ?_ ?_
  ·exact ⟨F.sb, s0⟩
  intro s1 _ w0 h1 o1 H hr
  obtain ⟨F, s2⟩ := h1
  replace H : Ahs a0 a1 s1 = some o1 := H
  unfold Ahs at H
  refine gc 6 F rfl fun _ F => Ll F H 11 4 rfl rfl rfl (fun h2 H _ F => ?_) (fun h2 H _ F => ?_)
  ·obtain ⟨x0, h3, H⟩ := Aa H
   obtain ⟨a2, h4, h5⟩ := Ai7 (Flat.int .i64) (fun _ hC => (rdL hr0 hC)) s2 Abt rfl h3
   obtain ⟨x1, h6, H⟩ := Aa H
   obtain ⟨a3, h7, h8⟩ := Ai7 (Flat.int .i64) (fun _ hC => (rdL hr1 hC)) s2 Abt rfl h6
   refine Alj Abj s2 F (QR.ev 2 rfl <| QR.ix h4 rfl <| QR.qo (fun _ hC => An Acx rfl (Abe.at_ (h5 _ hC) (o := 0) rfl)) rfl <| QR.ev 2 rfl <| QR.ix h7 rfl <| QR.qo (fun _ hC => An Acx rfl (Abe.at_ (h8 _ hC) (o := 0) rfl)) rfl <| QR.ev 1 rfl <| Bb) fun w1 _ s3 F => ge 1 F rfl fun _ F => Ll F H 12 7 rfl rfl rfl (fun h9 H _ F => ?_) (fun h9 H _ F => ?_)
   ·cases H
    obtain rfl := hr _ rfl
    replace H := R0
    try dsimp only at H
    cases H
    exact rt F ⟨rfl, s3⟩
   cases H
   exact ⟨_, rfl, F.sb, s3⟩
  cases H
  obtain rfl := hr _ rfl
  exact ⟨_, rfl, F.sb, s2⟩
 intro _ w2 hJ
 obtain ⟨p0, rfl, F, s4⟩ := hJ
 have H := R0
 clear R0 H0
 try dsimp only at H
 cases H
 exact ge 7 F rfl fun _ F => rt F ⟨rfl, s4⟩
theorem Asi {w : World} {v0 v1 : Value} {a0 : List Acg} {a1 : List Acg} {r : Bool} (hr0 : Rd Ad8 w [] v0 a0) (hr1 : Rd Ad8 w [] v1 a1) (H : Af6 a0 a1 = some r) :
    Calls prog 53 #[v0, v1] w (Ret fun u_ w_ => u_ = .bool r ∧ SL w [] w_ []) := by
 have s0 : SL w [] w [] := SL.Abr w
 refine cin func53 ntmps53 9 rfl rfl rfl fun _ F => ?_
 unfold Af6 at H
 refine gx F (Ah rfl underlying101 (fR hr0 s0)) 1 rfl rfl fun _ F => gx F (Ah rfl underlying101 (fR hr1 s0)) 3 rfl rfl fun _ F => Ll F H 7 6 rfl rfl rfl (fun h0 H _ F => ?_) (fun h0 H _ F => ?_)
 ·cases H
  exact rt F ⟨rfl, s0⟩
 obtain ⟨o0, H0, R0⟩ := Aa H
 clear H
 refine gx F (Ah rfl underlying101 (fR hr0 s0)) 3 rfl rfl fun _ F => Acs (fun a w_ => ∃ p0 : Unit, o0 = .inr (p0) ∧ Fr a 26 [] ∧ SL w [] w_ []) ?_ ?_
 ·have H := H0
  refine gc 1 F rfl fun _ F => lpk (Aeq a0 a1) (fun s1 a w_ => Fr a 26 [(0, v0), (1, v1), (12, jI (a0.length : Int)), (13, jI s1)] ∧ SL w [] w_ []) H ?_ ?_
  ·exact ⟨F.sb, s0⟩
  intro s1 _ w0 h1 o1 H hr
  obtain ⟨F, s2⟩ := h1
  replace H : Aeq a0 a1 s1 = some o1 := H
  unfold Aeq at H
  refine gc 6 F rfl fun _ F => Ll F H 11 4 rfl rfl rfl (fun h2 H _ F => ?_) (fun h2 H _ F => ?_)
  ·obtain ⟨x0, h3, H⟩ := Aa H
   obtain ⟨a2, h4, h5⟩ := Ai7 Agh (fun _ hC => (rdL hr0 hC)) s2 Aks rfl h3
   obtain ⟨x1, h6, H⟩ := Aa H
   obtain ⟨a3, h7, h8⟩ := Ai7 Agh (fun _ hC => (rdL hr1 hC)) s2 Aks rfl h6
   refine Alj Abj s2 F (QR.ev 2 rfl <| QR.ix h4 rfl <| QR.qo (fun _ hC => Av Avs rfl (h5 _ hC) rfl) rfl <| QR.ev 2 rfl <| QR.ix h7 rfl <| QR.qo (fun _ hC => Av Avs rfl (h8 _ hC) rfl) rfl <| QR.qo (fun _ hC => A21 (xs := [.string ⟨⟨x0.Name⟩⟩, jU (x0.Akl.toNat : Int)]) (ys := [.string ⟨⟨x1.Name⟩⟩, jU (x1.Akl.toNat : Int)]) ABa (by decide) rfl rfl (A3g ABa AHq (Bi rfl (Bj Am7 rfl) (Bj Am7 rfl) (EqAt.up (j := 1) (AHx underlying9) (by decide)) (Bi rfl (Bj Acy rfl) (Bj Acy rfl) (EqAt.up (j := 1) (ADd underlying48) (by decide)) A3f)))) rfl <| Bb) fun w1 _ s3 F => ?_
   refine ge 1 F rfl fun _ F => Ll F H 12 7 rfl rfl rfl (fun h9 H _ F => ?_) (fun h9 H _ F => ?_)
   ·cases H
    obtain rfl := hr _ rfl
    replace H := R0
    try dsimp only at H
    cases H
    exact rt F ⟨rfl, s3⟩
   cases H
   exact ⟨_, rfl, F.sb, s3⟩
  cases H
  obtain rfl := hr _ rfl
  exact ⟨_, rfl, F.sb, s2⟩
 intro _ w2 hJ
 obtain ⟨p0, rfl, F, s4⟩ := hJ
 have H := R0
 clear R0 H0
 try dsimp only at H
 cases H
 exact ge 7 F rfl fun _ F => rt F ⟨rfl, s4⟩
theorem Av7 {w : World} {v0 v1 : Value} {a0 : List BV} {a1 : List BV} {r : Bool} (hr0 : Rd Hw w [] v0 a0) (hr1 : Rd Hw w [] v1 a1) (H : Aix a0 a1 = some r) :
    Calls prog 31 #[v0, v1] w (Ret fun u_ w_ => u_ = .bool r ∧ SL w [] w_ []) := by
 have s0 : SL w [] w [] := SL.Abr w
 refine cin func31 ntmps31 9 rfl rfl rfl fun _ F => ?_
 unfold Aix at H
 refine gx F (Ah rfl underlying22 (fR hr0 s0)) 1 rfl rfl fun _ F => gx F (Ah rfl underlying22 (fR hr1 s0)) 3 rfl rfl fun _ F => Ll F H 7 6 rfl rfl rfl (fun h0 H _ F => ?_) (fun h0 H _ F => ?_)
 ·cases H
  exact rt F ⟨rfl, s0⟩
 obtain ⟨o0, H0, R0⟩ := Aa H
 clear H
 refine gx F (Ah rfl underlying22 (fR hr0 s0)) 3 rfl rfl fun _ F => Acs (fun a w_ => ∃ p0 : Unit, o0 = .inr (p0) ∧ Fr a 55 [] ∧ SL w [] w_ []) ?_ ?_
 ·have H := H0
  refine gc 1 F rfl fun _ F => lpk (Agf a0 a1) (fun s1 a w_ => Fr a 55 [(0, v0), (1, v1), (12, jI (a0.length : Int)), (13, jI s1)] ∧ SL w [] w_ []) H ?_ ?_
  ·exact ⟨F.sb, s0⟩
  intro s1 _ w0 h1 o1 H hr
  obtain ⟨F, s2⟩ := h1
  replace H : Agf a0 a1 s1 = some o1 := H
  unfold Agf at H
  refine gc 6 F rfl fun _ F => Ll F H 11 4 rfl rfl rfl (fun h2 H _ F => ?_) (fun h2 H _ F => ?_)
  ·obtain ⟨x0, h3, H⟩ := Aa H
   obtain ⟨a2, c0, G0, h4, h5, h6, h7⟩ := Rd.idx hr0 Af2 rfl h3
   obtain ⟨v2, rfl, h8⟩ := (Ael h6 h7)
   have hc4631_ := h5; clear h5; have h5 := fun w_ (hC : SL w [] w_ []) => hc4631_ _ _ hC
   obtain ⟨x1, h9, H⟩ := Aa H
   obtain ⟨a3, c1, G1, ha, hb, hc, hd⟩ := Rd.idx hr1 Af2 rfl h9
   obtain ⟨v3, rfl, he⟩ := (Ael hc hd)
   have hc4642_ := hb; clear hb; have hb := fun w_ (hC : SL w [] w_ []) => hc4642_ _ _ hC
   refine Be (x0.Name != x1.Name) (fun hf => ?_) (fun hf => ?_)
   ·replace H := As3 hf H
    refine Alj Abj s2 F (QR.ev 2 rfl <| QR.ix h4 rfl <| QR.qo (fun _ hC => Ba Ap8 rfl) rfl <| QR.qo (fun _ hC => An Am7 rfl (Abe.at_ (h5 _ hC) (o := 0) rfl)) rfl <| QR.ev 2 rfl <| QR.ix ha rfl <| QR.qo (fun _ hC => Ba Ap8 rfl) rfl <| QR.qo (fun _ hC => An Am7 rfl (Abe.at_ (hb _ hC) (o := 0) rfl)) rfl <| QR.qo (fun _ hC => A50 rfl rfl) rfl <| QR.ev 1 rfl <| QR.qs rfl rfl (Aj rfl hf) Ad rfl rfl <| QR.qs rfl rfl (Aj rfl hf) Ad rfl rfl <| QR.qs rfl rfl (Aj rfl hf) Ad rfl rfl <| QR.qs rfl rfl (Aj rfl hf) Ad rfl rfl <| QR.qs rfl rfl (Aj rfl hf) Ad rfl rfl <| QR.qs rfl rfl (Aj rfl hf) Ad rfl rfl <| QR.qs rfl rfl (Aj rfl hf) Ad rfl rfl <| QR.qs rfl rfl (Aj rfl hf) Ad rfl rfl <| QR.qs rfl rfl (Aj rfl hf) Ad rfl rfl <| QR.qs rfl rfl (Aj rfl hf) Ad rfl rfl <| QR.qs rfl rfl (Aj rfl hf) Ad rfl rfl <| QR.qo (fun _ hC => Bg (Aqo rfl hf) rfl) rfl <| QR.ev 1 rfl <| QR.qs rfl rfl rfl Ad rfl rfl <| QR.qs rfl rfl rfl Ad rfl rfl <| QR.qs rfl rfl rfl Ad rfl rfl <| QR.qs rfl rfl rfl Ad rfl rfl <| QR.qs rfl rfl rfl Ad rfl rfl <| QR.qs rfl rfl rfl Ad rfl rfl <| QR.qs rfl rfl rfl Ad rfl rfl <| QR.qs rfl rfl rfl Ad rfl rfl <| QR.qs rfl rfl rfl Ad rfl rfl <| QR.qs rfl rfl rfl Ad rfl rfl <| QR.qs rfl rfl rfl Ad rfl rfl <| QR.qs rfl rfl rfl Ad rfl rfl <| QR.qo (fun _ hC => Bg rfl rfl) rfl <| Bb) fun w1 _ s3 F => ?_
    cases H
    obtain rfl := hr _ rfl
    replace H := R0
    try dsimp only at H
    cases H
    exact ge 14 F rfl fun _ F => rt F ⟨rfl, s3⟩
   replace H := As4 hf H
   obtain ⟨x2, hg, H⟩ := Aa H
   obtain ⟨a4, c2, G2, hh, hi, hj, hk⟩ := Rd.idx hr0 Af2 rfl hg
   obtain ⟨v4, rfl, hl⟩ := (Ael hj hk)
   have hc4660_ := hi; clear hi; have hi := fun w_ (hC : SL w [] w_ []) => hc4660_ _ _ hC
   obtain ⟨x3, hm, H⟩ := Aa H
   obtain ⟨a5, c3, G3, hn, ho, hp, hq⟩ := Rd.idx hr1 Af2 rfl hm
   obtain ⟨v5, rfl, hs⟩ := (Ael hp hq)
   have hc4671_ := ho; clear ho; have ho := fun w_ (hC : SL w [] w_ []) => hc4671_ _ _ hC
   refine Be (x2.Ace != x3.Ace) (fun ht => ?_) (fun ht => ?_)
   ·replace H := As3 ht H
    refine Alj Abj s2 F (QR.ev 2 rfl <| QR.ix h4 rfl <| QR.qo (fun _ hC => Ba Ap8 rfl) rfl <| QR.qo (fun _ hC => An Am7 rfl (Abe.at_ (h5 _ hC) (o := 0) rfl)) rfl <| QR.ev 2 rfl <| QR.ix ha rfl <| QR.qo (fun _ hC => Ba Ap8 rfl) rfl <| QR.qo (fun _ hC => An Am7 rfl (Abe.at_ (hb _ hC) (o := 0) rfl)) rfl <| QR.qo (fun _ hC => A50 rfl rfl) rfl <| QR.ev 1 rfl <| QR.qg (fun _ hC => Az rfl) rfl rfl (Aj rfl hf) rfl rfl <| QR.qg (fun _ hC => Az rfl) rfl rfl (Aj rfl hf) rfl rfl <| QR.qg (fun _ hC => hh _ _ _ _ _ _ _ _ _ _ rfl rfl) rfl rfl (Aj rfl hf) rfl rfl <| QR.qg (fun _ hC => Ba Aln rfl) rfl rfl (Aj rfl hf) rfl rfl <| QR.qg (fun _ hC => An Acx rfl (Abe.at_ (hi _ hC) (o := 1) rfl)) rfl rfl (Aj rfl hf) rfl rfl <| QR.qg (fun _ hC => Az rfl) rfl rfl (Aj rfl hf) rfl rfl <| QR.qg (fun _ hC => Az rfl) rfl rfl (Aj rfl hf) rfl rfl <| QR.qg (fun _ hC => hn _ _ _ _ _ _ _ _ _ _ rfl rfl) rfl rfl (Aj rfl hf) rfl rfl <| QR.qg (fun _ hC => Ba Aln rfl) rfl rfl (Aj rfl hf) rfl rfl <| QR.qg (fun _ hC => An Acx rfl (Abe.at_ (ho _ hC) (o := 1) rfl)) rfl rfl (Aj rfl hf) rfl rfl <| QR.qg (fun _ hC => Awm rfl rfl) rfl rfl (Aj rfl hf) rfl rfl <| QR.qo (fun _ hC => Bk (Aqo rfl hf) rfl) rfl <| QR.ev 1 rfl <| QR.qs rfl rfl (Aj rfl ht) Ad rfl rfl <| QR.qs rfl rfl (Aj rfl ht) Ad rfl rfl <| QR.qs rfl rfl (Aj rfl ht) Ad rfl rfl <| QR.qs rfl rfl (Aj rfl ht) Ad rfl rfl <| QR.qs rfl rfl (Aj rfl ht) Ad rfl rfl <| QR.qs rfl rfl (Aj rfl ht) Ad rfl rfl <| QR.qs rfl rfl (Aj rfl ht) Ad rfl rfl <| QR.qs rfl rfl (Aj rfl ht) Ad rfl rfl <| QR.qs rfl rfl (Aj rfl ht) Ad rfl rfl <| QR.qs rfl rfl (Aj rfl ht) Ad rfl rfl <| QR.qs rfl rfl (Aj rfl ht) Ad rfl rfl <| QR.qs rfl rfl (Aj rfl ht) Ad rfl rfl <| QR.qo (fun _ hC => Bg (Aqo rfl ht) rfl) rfl <| Bb) fun w2 _ s4 F => ?_
    cases H
    obtain rfl := hr _ rfl
    replace H := R0
    try dsimp only at H
    cases H
    exact ge 14 F rfl fun _ F => rt F ⟨rfl, s4⟩
   replace H := As4 ht H
   obtain ⟨x4, hu, H⟩ := Aa H
   obtain ⟨a6, c4, G4, hv, hw, hx, hy⟩ := Rd.idx hr0 Af2 rfl hu
   obtain ⟨v6, rfl, hz⟩ := (Ael hx hy)
   have hc4689_ := hw; clear hw; have hw := fun w_ (hC : SL w [] w_ []) => hc4689_ _ _ hC
   obtain ⟨x5, h10, H⟩ := Aa H
   obtain ⟨a7, c5, G5, h11, h12, h13, h14⟩ := Rd.idx hr1 Af2 rfl h10
   obtain ⟨v7, rfl, h15⟩ := (Ael h13 h14)
   have hc4700_ := h12; clear h12; have h12 := fun w_ (hC : SL w [] w_ []) => hc4700_ _ _ hC
   obtain ⟨x6, h16, H⟩ := Aa H
   refine Alj Abj s2 F (QR.ev 2 rfl <| QR.ix h4 rfl <| QR.qo (fun _ hC => Ba Ap8 rfl) rfl <| QR.qo (fun _ hC => An Am7 rfl (Abe.at_ (h5 _ hC) (o := 0) rfl)) rfl <| QR.ev 2 rfl <| QR.ix ha rfl <| QR.qo (fun _ hC => Ba Ap8 rfl) rfl <| QR.qo (fun _ hC => An Am7 rfl (Abe.at_ (hb _ hC) (o := 0) rfl)) rfl <| QR.qo (fun _ hC => A50 rfl rfl) rfl <| QR.ev 1 rfl <| QR.qg (fun _ hC => Az rfl) rfl rfl (Aj rfl hf) rfl rfl <| QR.qg (fun _ hC => Az rfl) rfl rfl (Aj rfl hf) rfl rfl <| QR.qg (fun _ hC => hh _ _ _ _ _ _ _ _ _ _ rfl rfl) rfl rfl (Aj rfl hf) rfl rfl <| QR.qg (fun _ hC => Ba Aln rfl) rfl rfl (Aj rfl hf) rfl rfl <| QR.qg (fun _ hC => An Acx rfl (Abe.at_ (hi _ hC) (o := 1) rfl)) rfl rfl (Aj rfl hf) rfl rfl <| QR.qg (fun _ hC => Az rfl) rfl rfl (Aj rfl hf) rfl rfl <| QR.qg (fun _ hC => Az rfl) rfl rfl (Aj rfl hf) rfl rfl <| QR.qg (fun _ hC => hn _ _ _ _ _ _ _ _ _ _ rfl rfl) rfl rfl (Aj rfl hf) rfl rfl <| QR.qg (fun _ hC => Ba Aln rfl) rfl rfl (Aj rfl hf) rfl rfl <| QR.qg (fun _ hC => An Acx rfl (Abe.at_ (ho _ hC) (o := 1) rfl)) rfl rfl (Aj rfl hf) rfl rfl <| QR.qg (fun _ hC => Awm rfl rfl) rfl rfl (Aj rfl hf) rfl rfl <| QR.qo (fun _ hC => Bk (Aqo rfl hf) rfl) rfl <| QR.ev 1 rfl <| QR.qg (fun _ hC => Az rfl) rfl rfl (Aj rfl ht) rfl rfl <| QR.qg (fun _ hC => Az rfl) rfl rfl (Aj rfl ht) rfl rfl <| QR.qg (fun _ hC => hv _ _ _ _ _ _ _ _ _ _ rfl rfl) rfl rfl (Aj rfl ht) rfl rfl <| QR.qg (fun _ hC => Ba Ap4 rfl) rfl rfl (Aj rfl ht) rfl rfl <| QR.qg (fun _ hC => An Arj rfl (Abe.at_ (hw _ hC) (o := 2) rfl)) rfl rfl (Aj rfl ht) rfl rfl <| QR.qg (fun _ hC => Az rfl) rfl rfl (Aj rfl ht) rfl rfl <| QR.qg (fun _ hC => Az rfl) rfl rfl (Aj rfl ht) rfl rfl <| QR.qg (fun _ hC => h11 _ _ _ _ _ _ _ _ _ _ rfl rfl) rfl rfl (Aj rfl ht) rfl rfl <| QR.qg (fun _ hC => Ba Ap4 rfl) rfl rfl (Aj rfl ht) rfl rfl <| QR.qg (fun _ hC => An Arj rfl (Abe.at_ (h12 _ hC) (o := 2) rfl)) rfl rfl (Aj rfl ht) rfl rfl <| QR.AEq rfl (Aj rfl ht) (args := [.tmp 45, .tmp 50]) AKu rfl (fun _ hC => Bf (Asi (a0 := x4.Fields) (a1 := x5.Fields) (hz.M3 hC) (h15.M3 hC) h16) hC) <| QR.qg (fun _ hC => AFn rfl) rfl rfl (Aj rfl ht) rfl rfl <| QR.qo (fun _ hC => Bk (Aqo rfl ht) rfl) rfl <| Bb) fun w3 _ s5 F => ?_
   refine ge 1 F rfl fun _ F => Ll F H 12 7 rfl rfl rfl (fun h17 H _ F => ?_) (fun h17 H _ F => ?_)
   ·cases H
    obtain rfl := hr _ rfl
    replace H := R0
    try dsimp only at H
    cases H
    exact rt F ⟨rfl, s5⟩
   cases H
   exact ⟨_, rfl, F.sb, s5⟩
  cases H
  obtain rfl := hr _ rfl
  exact ⟨_, rfl, F.sb, s2⟩
 intro _ w4 hJ
 obtain ⟨p0, rfl, F, s6⟩ := hJ
 have H := R0
 clear R0 H0
 try dsimp only at H
 cases H
 exact ge 7 F rfl fun _ F => rt F ⟨rfl, s6⟩
theorem Arv {w : World} {v0 v1 : Value} {a0 : List UInt8} {a1 : List UInt8} {r : Bool} (hr0 : Rd Ty.u8 w [] v0 a0) (hr1 : Rd Ty.u8 w [] v1 a1) (H : Ah9 a0 a1 = some r) :
    Calls prog 33 #[v0, v1] w (Ret fun u_ w_ => u_ = .bool r ∧ SL w [] w_ []) := by
 have s0 : SL w [] w [] := SL.Abr w
 refine cin func33 ntmps33 9 rfl rfl rfl fun _ F => ?_
 unfold Ah9 at H
 refine gx F (Ah rfl underlying42 (fR hr0 s0)) 1 rfl rfl fun _ F => gx F (Ah rfl underlying42 (fR hr1 s0)) 3 rfl rfl fun _ F => Ll F H 7 6 rfl rfl rfl (fun h0 H _ F => ?_) (fun h0 H _ F => ?_)
 ·cases H
  exact rt F ⟨rfl, s0⟩
 obtain ⟨o0, H0, R0⟩ := Aa H
 clear H
 refine gx F (Ah rfl underlying42 (fR hr0 s0)) 3 rfl rfl fun _ F => Acs (fun a w_ => ∃ p0 : Unit, o0 = .inr (p0) ∧ Fr a 26 [] ∧ SL w [] w_ []) ?_ ?_
 ·have H := H0
  refine gc 1 F rfl fun _ F => lpk (Agx a0 a1) (fun s1 a w_ => Fr a 26 [(0, v0), (1, v1), (12, jI (a0.length : Int)), (13, jI s1)] ∧ SL w [] w_ []) H ?_ ?_
  ·exact ⟨F.sb, s0⟩
  intro s1 _ w0 h1 o1 H hr
  obtain ⟨F, s2⟩ := h1
  replace H : Agx a0 a1 s1 = some o1 := H
  unfold Agx at H
  refine gc 6 F rfl fun _ F => Ll F H 11 4 rfl rfl rfl (fun h2 H _ F => ?_) (fun h2 H _ F => ?_)
  ·obtain ⟨x0, h3, H⟩ := Aa H
   obtain ⟨a2, h4, h5⟩ := Ai7 Flat.u8 (fun _ hC => (rdL hr0 hC)) s2 Agm rfl h3
   obtain ⟨x1, h6, H⟩ := Aa H
   obtain ⟨a3, h7, h8⟩ := Ai7 Flat.u8 (fun _ hC => (rdL hr1 hC)) s2 Agm rfl h6
   refine Alj Abj s2 F (QR.ev 2 rfl <| QR.ix h4 rfl <| QR.qo (fun _ hC => An Ase rfl (Abe.at_ (h5 _ hC) (o := 0) rfl)) rfl <| QR.ev 2 rfl <| QR.ix h7 rfl <| QR.qo (fun _ hC => An Ase rfl (Abe.at_ (h8 _ hC) (o := 0) rfl)) rfl <| QR.ev 1 rfl <| Bb) fun w1 _ s3 F => ge 1 F rfl fun _ F => Ll F H 12 7 rfl rfl rfl (fun h9 H _ F => ?_) (fun h9 H _ F => ?_)
   ·cases H
    obtain rfl := hr _ rfl
    replace H := R0
    try dsimp only at H
    cases H
    exact rt F ⟨rfl, s3⟩
   cases H
   exact ⟨_, rfl, F.sb, s3⟩
  cases H
  obtain rfl := hr _ rfl
  exact ⟨_, rfl, F.sb, s2⟩
 intro _ w2 hJ
 obtain ⟨p0, rfl, F, s4⟩ := hJ
 have H := R0
 clear R0 H0
 try dsimp only at H
 cases H
 exact ge 7 F rfl fun _ F => rt F ⟨rfl, s4⟩
theorem As7 {w : World} {v0 v1 : Value} {a0 : List UInt8} {a1 : List UInt8} {r : Bool} (hr0 : Rd Ty.u8 w [] v0 a0) (hr1 : Rd Ty.u8 w [] v1 a1) (H : Agr a0 a1 = some r) :
    Calls prog 79 #[v0, v1] w (Ret fun u_ w_ => u_ = .bool r ∧ SL w [] w_ []) := by
 have s0 : SL w [] w [] := SL.Abr w
 refine cin func79 ntmps79 9 rfl rfl rfl fun _ F => ?_
 unfold Agr at H
 refine gx F (Ah rfl underlying47 (fR hr0 s0)) 1 rfl rfl fun _ F => gx F (Ah rfl underlying47 (fR hr1 s0)) 3 rfl rfl fun _ F => Ll F H 7 6 rfl rfl rfl (fun h0 H _ F => ?_) (fun h0 H _ F => ?_)
 ·cases H
  exact rt F ⟨rfl, s0⟩
 obtain ⟨o0, H0, R0⟩ := Aa H
 clear H
 refine gx F (Ah rfl underlying47 (fR hr0 s0)) 3 rfl rfl fun _ F => Acs (fun a w_ => ∃ p0 : Unit, o0 = .inr (p0) ∧ Fr a 26 [] ∧ SL w [] w_ []) ?_ ?_
 ·have H := H0
  refine gc 1 F rfl fun _ F => lpk (Ae4 a0 a1) (fun s1 a w_ => Fr a 26 [(0, v0), (1, v1), (12, jI (a0.length : Int)), (13, jI s1)] ∧ SL w [] w_ []) H ?_ ?_
  ·exact ⟨F.sb, s0⟩
  intro s1 _ w0 h1 o1 H hr
  obtain ⟨F, s2⟩ := h1
  replace H : Ae4 a0 a1 s1 = some o1 := H
  unfold Ae4 at H
  refine gc 6 F rfl fun _ F => Ll F H 11 4 rfl rfl rfl (fun h2 H _ F => ?_) (fun h2 H _ F => ?_)
  ·obtain ⟨x0, h3, H⟩ := Aa H
   obtain ⟨a2, h4, h5⟩ := Ai7 Flat.u8 (fun _ hC => (rdL hr0 hC)) s2 Abp rfl h3
   obtain ⟨x1, h6, H⟩ := Aa H
   obtain ⟨a3, h7, h8⟩ := Ai7 Flat.u8 (fun _ hC => (rdL hr1 hC)) s2 Abp rfl h6
   refine Alj Abj s2 F (QR.ev 2 rfl <| QR.ix h4 rfl <| QR.qo (fun _ hC => An Acy rfl (Abe.at_ (h5 _ hC) (o := 0) rfl)) rfl <| QR.ev 2 rfl <| QR.ix h7 rfl <| QR.qo (fun _ hC => An Acy rfl (Abe.at_ (h8 _ hC) (o := 0) rfl)) rfl <| QR.ev 1 rfl <| Bb) fun w1 _ s3 F => ge 1 F rfl fun _ F => Ll F H 12 7 rfl rfl rfl (fun h9 H _ F => ?_) (fun h9 H _ F => ?_)
   ·cases H
    obtain rfl := hr _ rfl
    replace H := R0
    try dsimp only at H
    cases H
    exact rt F ⟨rfl, s3⟩
   cases H
   exact ⟨_, rfl, F.sb, s3⟩
  cases H
  obtain rfl := hr _ rfl
  exact ⟨_, rfl, F.sb, s2⟩
 intro _ w2 hJ
 obtain ⟨p0, rfl, F, s4⟩ := hJ
 have H := R0
 clear R0 H0
 try dsimp only at H
 cases H
 exact ge 7 F rfl fun _ F => rt F ⟨rfl, s4⟩
theorem Ayk {w : World} {v0_0 v1_0 : Value} {a0 : Aa6} {a1 : Aa6} {r : Bool} (hr0_0 : Rd Ty.u8 w [] v0_0 a0.Abs) (hr1_0 : Rd Ty.u8 w [] v1_0 a1.Abs) (H : Ako a0 a1 = some r) :
    Calls prog 54 #[.agg ⟨[v0_0, jU (a0.Result.toNat : Int)]⟩, .agg ⟨[v1_0, jU (a1.Result.toNat : Int)]⟩] w (Ret fun u_ w_ => u_ = .bool r ∧ SL w [] w_ []) := by
 have s0 : SL w [] w [] := SL.Abr w
 refine cin func54 ntmps54 2 rfl rfl rfl fun _ F0 => ?_
 unfold Ako at H
 refine Ar F0 s0 rfl rfl rfl fun g0 w0 _ F s1 => Ar F s1 rfl rfl rfl fun g1 w1 _ F s2 => gw 6 F rfl fun _ F => Ki F s2 m1 1 rfl fun _ F => Ki F s2 m0 2 rfl fun _ F => bsp 10 F H (fun h0 H F => ?_) (fun h0 H F => ?_)
 ·refine gw 1 F rfl fun _ F => Lm F rfl rfl <| Ki F s2 m1 1 rfl fun _ F => Lm F rfl rfl <| Ki F s2 m0 0 rfl fun _ F => ?_
  obtain ⟨x0, h1, H⟩ := Aa H
  refine Lm F rfl rfl <| gca F s2 (As7 (hr0_0.M3 s2) (hr1_0.M3 s2) h1) 5 rfl rfl rfl rfl fun w2 _ F s3 => ?_
  cases H
  exact rt F ⟨rfl, s3.drop.drop⟩
 cases H
 exact gw 10 F rfl fun _ F => rt F ⟨rfl, s2.drop.drop⟩
theorem Axv {w : World} {v0_1 v0_4 v1_1 v1_4 : Value} {a0 : Adh} {a1 : Adh} {r : Bool} (hr0_1 : Rd Ty.u8 w [] v0_1 a0.Sig.Abs) (hr0_4 : Rd Ty.u8 w [] v0_4 a0.Code) (hr1_1 : Rd Ty.u8 w [] v1_1 a1.Sig.Abs) (hr1_4 : Rd Ty.u8 w [] v1_4 a1.Code) (H : Aki a0 a1 = some r) :
    Calls prog 32 #[.agg ⟨[.string ⟨⟨a0.Name⟩⟩, v0_1, jU (a0.Sig.Result.toNat : Int), jI a0.Locals, v0_4]⟩, .agg ⟨[.string ⟨⟨a1.Name⟩⟩, v1_1, jU (a1.Sig.Result.toNat : Int), jI a1.Locals, v1_4]⟩] w (Ret fun u_ w_ => u_ = .bool r ∧ SL w [] w_ []) := by
 have s0 : SL w [] w [] := SL.Abr w
 refine cin func32 ntmps32 2 rfl rfl rfl fun _ F0 => ?_
 unfold Aki at H
 refine Ar F0 s0 rfl rfl rfl fun g0 w0 _ F s1 => Ar F s1 rfl rfl rfl fun g1 w1 _ F s2 => gw 6 F rfl fun _ F => Ki F s2 m1 1 rfl fun _ F => Ki F s2 m0 0 rfl fun _ F => gx F (Ayt rfl rfl) 1 rfl rfl fun _ F => bsp 10 F H (fun h0 H F => ?_) (fun h0 H F => ?_)
 ·refine gw 1 F rfl fun _ F => Lm F rfl rfl <| gx F (Av Aot rfl (s2.Afh m1 (o := 1) (ds := [v0_1, jU (a0.Sig.Result.toNat : Int)]) (Aw8 _ rfl)) rfl) 1 rfl rfl fun _ F => Lm F rfl rfl <| gx F (Av Aot rfl (s2.Afh m0 (o := 1) (ds := [v1_1, jU (a1.Sig.Result.toNat : Int)]) (Aw8 _ rfl)) rfl) 0 rfl rfl fun _ F => ?_
  obtain ⟨x0, h1, H⟩ := Aa H
  refine Lm F rfl rfl <| gca F s2 (Ayk (a0 := (⟨a0.Sig.Abs, a0.Sig.Result⟩ : Aa6)) (a1 := (⟨a1.Sig.Abs, a1.Sig.Result⟩ : Aa6)) (hr0_1.M3 s2) (hr1_1.M3 s2) h1) 2 rfl rfl rfl rfl fun w2 _ F s3 => bsp 17 F H (fun h2 H F => ?_) (fun h2 H F => ?_)
  ·refine gw 1 F rfl fun _ F => Lm F rfl rfl <| Ki F s3 m1 1 rfl fun _ F => Lm F rfl rfl <| Ki F s3 m0 3 rfl fun _ F => bsp 24 F H (fun h3 H F => ?_) (fun h3 H F => ?_)
   ·refine gw 1 F rfl fun _ F => Lm F rfl rfl <| Ki F s3 m1 1 rfl fun _ F => Lm F rfl rfl <| Ki F s3 m0 0 rfl fun _ F => ?_
    obtain ⟨x1, h4, H⟩ := Aa H
    refine Lm F rfl rfl <| gca F s3 (Arv (hr0_4.M3 s3) (hr1_4.M3 s3) h4) 5 rfl rfl rfl rfl fun w3 _ F s4 => ?_
    cases H
    exact rt F ⟨rfl, s4.drop.drop⟩
   cases H
   exact gw 10 F rfl fun _ F => rt F ⟨rfl, s3.drop.drop⟩
  cases H
  exact gw 17 F rfl fun _ F => rt F ⟨rfl, s3.drop.drop⟩
 cases H
 exact gw 24 F rfl fun _ F => rt F ⟨rfl, s2.drop.drop⟩
theorem Awf {w : World} {v0_1 v0_2 v0_3 v1_1 v1_2 v1_3 : Value} {a0 : LK} {a1 : LK} {r : Bool} (hr0_1 : Rd Hw w [] v0_1 a0.Classes) (hr0_2 : Rd Ado w [] v0_2 a0.Funcs) (hr0_3 : Rd (Ty.slice Ty.u8) w [] v0_3 a0.Adm) (hr1_1 : Rd Hw w [] v1_1 a1.Classes) (hr1_2 : Rd Ado w [] v1_2 a1.Funcs) (hr1_3 : Rd (Ty.slice Ty.u8) w [] v1_3 a1.Adm) (H : Ajg a0 a1 = some r) :
    Calls prog 12 #[.agg ⟨[.string ⟨⟨a0.Name⟩⟩, v0_1, v0_2, v0_3]⟩, .agg ⟨[.string ⟨⟨a1.Name⟩⟩, v1_1, v1_2, v1_3]⟩] w (Ret fun u_ w_ => u_ = .bool r ∧ SL w [] w_ []) := by
 have s0 : SL w [] w [] := SL.Abr w
 refine cin func12 ntmps12 2 rfl rfl rfl fun _ F0 => ?_
 unfold Ajg at H
 refine Ar F0 s0 rfl rfl rfl fun g0 w0 _ F s1 => Ar F s1 rfl rfl rfl fun g1 w1 _ F s2 => gw 7 F rfl fun _ F => Ki F s2 m1 1 rfl fun _ F => Ki F s2 m0 0 rfl fun _ F => gx F (A50 rfl rfl) 1 rfl rfl fun _ F => bsp 12 F H (fun h0 H F => ?_) (fun h0 H F => ?_)
 ·cases H
  exact gw 35 F rfl fun _ F => rt F ⟨rfl, s2.drop.drop⟩
 refine gw 1 F rfl fun _ F => Lm F rfl rfl <| Ki F s2 m1 1 rfl fun _ F => Lm F rfl rfl <| Ki F s2 m0 0 rfl fun _ F => ?_
 obtain ⟨x0, h1, H⟩ := Aa H
 refine Lm F rfl rfl <| gca F s2 (Av7 (hr0_1.M3 s2) (hr1_1.M3 s2) h1) 3 rfl rfl rfl rfl fun w2 _ F s3 => bsp 20 F H (fun h2 H F => ?_) (fun h2 H F => ?_)
 ·cases H
  exact gw 27 F rfl fun _ F => rt F ⟨rfl, s3.drop.drop⟩
 refine gw 1 F rfl fun _ F => Lm F rfl rfl <| Ki F s3 m1 0 rfl fun _ F => Lm F rfl rfl <| gx F (Ah rfl underlying23 (fR hr0_2 s3)) 1 rfl rfl fun _ F => Lm F rfl rfl <| Ki F s3 m0 0 rfl fun _ F => Lm F rfl rfl <| gx F (Ah rfl underlying23 (fR hr1_2 s3)) 3 rfl rfl fun _ F => bsp 29 F H (fun h3 H F => ?_) (fun h3 H F => ?_)
 ·cases H
  exact gw 18 F rfl fun _ F => rt F ⟨rfl, s3.drop.drop⟩
 refine gw 1 F rfl fun _ F => Lm F rfl rfl <| Ki F s3 m1 0 rfl fun _ F => Lm F rfl rfl <| gx F (Ah rfl underlying24 (fR hr0_3 s3)) 1 rfl rfl fun _ F => Lm F rfl rfl <| Ki F s3 m0 0 rfl fun _ F => Lm F rfl rfl <| gx F (Ah rfl underlying24 (fR hr1_3 s3)) 4 rfl rfl fun _ F => Ll F H 7 6 rfl rfl rfl (fun h4 H _ F => ?_) (fun h4 H _ F => ?_)
 ·cases H
  exact rt F ⟨rfl, s3.drop.drop⟩
 refine Ki F s3 m1 0 rfl fun _ F => ?_
 obtain ⟨o0, H0, R0⟩ := Aa H
 clear H
 refine gx F (Ah rfl underlying23 (fR hr0_2 s3)) 3 rfl rfl fun _ F => Acs (fun a w_ => ∃ p0 : Unit, o0 = .inr (p0) ∧ Fr a 76 [(2, jP g0), (3, jP g1)] ∧ SL w [] w_ [Cw g1 26 [.string ⟨⟨a1.Name⟩⟩, v1_1, v1_2, v1_3], Cw g0 26 [.string ⟨⟨a0.Name⟩⟩, v0_1, v0_2, v0_3]]) ?_ ?_
 ·have H := H0
  refine gc 1 F rfl fun _ F => lpk (Agk a0 a1) (fun s4 a w_ => Fr a 76 [(2, jP g0), (3, jP g1), (40, jI (a0.Funcs.length : Int)), (41, jI s4)] ∧ SL w [] w_ [Cw g1 26 [.string ⟨⟨a1.Name⟩⟩, v1_1, v1_2, v1_3], Cw g0 26 [.string ⟨⟨a0.Name⟩⟩, v0_1, v0_2, v0_3]]) H ?_ ?_
  ·exact ⟨F.sb, s3⟩
  intro s4 _ w3 h5 o1 H hr
  obtain ⟨F, s5⟩ := h5
  replace H : Agk a0 a1 s4 = some o1 := H
  unfold Agk at H
  refine gc 6 F rfl fun _ F => Ll F H 11 4 rfl rfl rfl (fun h6 H _ F => ?_) (fun h6 H _ F => ?_)
  ·obtain ⟨x1, h7, H⟩ := Aa H
   obtain ⟨a2, c0, G0, h8, h9, ha, hb⟩ := Rd.idx hr0_2 Api rfl h7
   obtain ⟨v0, v1, rfl, hc, hd⟩ := (An9 ha hb)
   have hc3755_ := h9; clear h9; have h9 := fun w_ (hC : SL w [] w_ [Cw g1 26 [.string ⟨⟨a1.Name⟩⟩, v1_1, v1_2, v1_3], Cw g0 26 [.string ⟨⟨a0.Name⟩⟩, v0_1, v0_2, v0_3]]) => hc3755_ _ _ hC
   obtain ⟨x2, he, H⟩ := Aa H
   obtain ⟨a3, c1, G1, hf, hg, hh, hi⟩ := Rd.idx hr1_2 Api rfl he
   obtain ⟨v2, v3, rfl, hj, hk⟩ := (An9 hh hi)
   have hc3768_ := hg; clear hg; have hg := fun w_ (hC : SL w [] w_ [Cw g1 26 [.string ⟨⟨a1.Name⟩⟩, v1_1, v1_2, v1_3], Cw g0 26 [.string ⟨⟨a0.Name⟩⟩, v0_1, v0_2, v0_3]]) => hc3768_ _ _ hC
   obtain ⟨x3, hl, H⟩ := Aa H
   refine Alj Abj s5 F (QR.ev 1 rfl <| QR.ld m1 rfl <| QR.ev 1 rfl <| QR.ix h8 rfl <| QR.qo (fun _ hC => Av As8 rfl (h9 _ hC) rfl) rfl <| QR.ev 1 rfl <| QR.ld m0 rfl <| QR.ev 1 rfl <| QR.ix hf rfl <| QR.qo (fun _ hC => Av As8 rfl (hg _ hC) rfl) rfl <| QR.call (args := [.tmp 48, .tmp 53]) AKv rfl (fun _ hC => Bf (Axv (a0 := x1) (a1 := x2) (hc.M3 hC) (hd.M3 hC) (hj.M3 hC) (hk.M3 hC) hl) hC) <| QR.ev 1 rfl <| Bb) fun w4 _ s6 F => ge 1 F rfl fun _ F => Ll F H 12 7 rfl rfl rfl (fun hm H _ F => ?_) (fun hm H _ F => ?_)
   ·cases H
    obtain rfl := hr _ rfl
    replace H := R0
    try dsimp only at H
    cases H
    exact rt F ⟨rfl, s6.drop.drop⟩
   cases H
   exact ⟨_, rfl, F.sb, s6⟩
  cases H
  obtain rfl := hr _ rfl
  exact ⟨_, rfl, F.sb, s5⟩
 intro _ w5 hJ
 obtain ⟨p0, rfl, F, s7⟩ := hJ
 have H := R0
 clear R0 H0
 try dsimp only at H
 refine ge 5 F rfl fun _ F => Ki F s7 m1 0 rfl fun _ F => ?_
 obtain ⟨o2, H1, R1⟩ := Aa H
 clear H
 refine gx F (Ah rfl underlying24 (fR hr0_3 s7)) 3 rfl rfl fun _ F => Acs (fun a w_ => ∃ p1 : Unit, o2 = .inr (p1) ∧ Fr a 76 [] ∧ SL w [] w_ []) ?_ ?_
 ·have H := H1
  refine gc 1 F rfl fun _ F => lpk (Agl a0 a1) (fun s8 a w_ => Fr a 76 [(2, jP g0), (3, jP g1), (59, jI (a0.Adm.length : Int)), (60, jI s8)] ∧ SL w [] w_ [Cw g1 26 [.string ⟨⟨a1.Name⟩⟩, v1_1, v1_2, v1_3], Cw g0 26 [.string ⟨⟨a0.Name⟩⟩, v0_1, v0_2, v0_3]]) H ?_ ?_
  ·exact ⟨F.sb, s7⟩
  intro s8 _ w6 hn o3 H hr
  obtain ⟨F, s9⟩ := hn
  replace H : Agl a0 a1 s8 = some o3 := H
  unfold Agl at H
  refine gc 6 F rfl fun _ F => Ll F H 11 4 rfl rfl rfl (fun ho H _ F => ?_) (fun ho H _ F => ?_)
  ·obtain ⟨x4, hp, H⟩ := Aa H
   obtain ⟨a4, c2, G2, hq, hs, ht, hu⟩ := Rd.idx hr0_3 Awv rfl hp
   obtain ⟨v4, rfl, hv⟩ := (AEg ht hu)
   have hc7014_ := hs; clear hs; have hs := fun w_ (hC : SL w [] w_ [Cw g1 26 [.string ⟨⟨a1.Name⟩⟩, v1_1, v1_2, v1_3], Cw g0 26 [.string ⟨⟨a0.Name⟩⟩, v0_1, v0_2, v0_3]]) => hc7014_ _ _ hC
   obtain ⟨x5, hw, H⟩ := Aa H
   obtain ⟨a5, c3, G3, hx, hy, hz, h10⟩ := Rd.idx hr1_3 Awv rfl hw
   obtain ⟨v5, rfl, h11⟩ := (AEg hz h10)
   have hc7025_ := hy; clear hy; have hy := fun w_ (hC : SL w [] w_ [Cw g1 26 [.string ⟨⟨a1.Name⟩⟩, v1_1, v1_2, v1_3], Cw g0 26 [.string ⟨⟨a0.Name⟩⟩, v0_1, v0_2, v0_3]]) => hc7025_ _ _ hC
   obtain ⟨x6, h12, H⟩ := Aa H
   refine Alj Abj s9 F (QR.ev 1 rfl <| QR.ld m1 rfl <| QR.ev 1 rfl <| QR.ix hq rfl <| QR.qo (fun _ hC => An A0h rfl (Abe.at_ (hs _ hC) (o := 0) rfl)) rfl <| QR.ev 1 rfl <| QR.ld m0 rfl <| QR.ev 1 rfl <| QR.ix hx rfl <| QR.qo (fun _ hC => An A0h rfl (Abe.at_ (hy _ hC) (o := 0) rfl)) rfl <| QR.call (args := [.tmp 67, .tmp 72]) AK5 rfl (fun _ hC => Bf (Arv (a0 := x4) (a1 := x5) (hv.M3 hC) (h11.M3 hC) h12) hC) <| QR.ev 1 rfl <| Bb) fun w7 _ sa F => ge 1 F rfl fun _ F => Ll F H 12 7 rfl rfl rfl (fun h13 H _ F => ?_) (fun h13 H _ F => ?_)
   ·cases H
    obtain rfl := hr _ rfl
    replace H := R1
    try dsimp only at H
    cases H
    exact rt F ⟨rfl, sa.drop.drop⟩
   cases H
   exact ⟨_, rfl, F.sb, sa⟩
  cases H
  obtain rfl := hr _ rfl
  exact ⟨_, rfl, F.sb, s9.drop.drop⟩
 intro _ w8 hJ
 obtain ⟨p1, rfl, F, sc⟩ := hJ
 have H := R1
 clear R1 H1
 try dsimp only at H
 cases H
 exact ge 7 F rfl fun _ F => rt F ⟨rfl, sc⟩
theorem Amt {w : World} {v0 : Value} {a0 : List Acg} {r : (List Acg)} (hr0 : Rd Ad8 w [] v0 a0) (H : Afa a0 = some r) :
    Calls prog 44 #[v0] w (Ret fun u_ w_ => ∃ u0 : Value, u_ = u0 ∧ SL w [] w_ [Sl Ad8 u0 r]) := by
 have s0 : SL w [] w [] := SL.Abr w
 refine cin func44 ntmps44 9 rfl rfl rfl fun _ F => ?_
 unfold Afa at H
 obtain ⟨A0, c0, h0⟩ := Ao3 (rdL hr0 s0)
 refine gx F (A19 rfl h0 rfl underlying101) 2 rfl rfl fun _ F => A9f F rfl (fun h1 => ?_) (fun h1 => ?_)
 ·have h2 := AAm (rdL hr0 s0) h0 (by simpa using h1)
  replace H := A5d (B := some ([] : List Acg)) H (by simp [h2, app])
  cases H
  exact gc 7 F rfl fun _ F => rt F ⟨(.slice none 0 0), rfl, (SL.Ac3 (T := Ad8) s0)⟩
 refine gc 4 F rfl fun _ F => ?_
 refine Ae (parts := []) Agh ([] : List Acg) F s0 Aks rfl (by decide) rfl rfl rfl (by simp [Value.cells]) rfl rfl rfl fun v1 w0 _ F s1 => ?_
 obtain ⟨x0, h3, H⟩ := Aa H
 obtain ⟨_, hr_⟩ := (rdL hr0 s1)
 refine gw 1 F rfl fun _ F => Aw Agh F s1 Aks rfl rfl rfl rfl hr_ rfl rfl h3 rfl fun v2 w1 _ F s2 => ?_
 cases H
 exact gw 4 F rfl fun _ F => rt F ⟨v2, rfl, s2⟩
theorem Aj7 {w : World} {v0 : Value} {a0 : List UInt8} {r : (List UInt8)} (hr0 : Rd Ty.u8 w [] v0 a0) (H : Afo a0 = some r) :
    Calls prog 70 #[v0] w (Ret fun u_ w_ => ∃ u0 : Value, u_ = u0 ∧ SL w [] w_ [Sl Ty.u8 u0 r]) := by
 have s0 : SL w [] w [] := SL.Abr w
 refine cin func70 ntmps70 9 rfl rfl rfl fun _ F => ?_
 unfold Afo at H
 obtain ⟨A0, c0, h0⟩ := Ao3 (rdL hr0 s0)
 refine gx F (A19 rfl h0 rfl underlying47) 2 rfl rfl fun _ F => A9f F rfl (fun h1 => ?_) (fun h1 => ?_)
 ·have h2 := AAm (rdL hr0 s0) h0 (by simpa using h1)
  replace H := A5d (B := some ([] : List UInt8)) H (by simp [h2, app])
  cases H
  exact gc 7 F rfl fun _ F => rt F ⟨(.slice none 0 0), rfl, (SL.Ac3 (T := Ty.u8) s0)⟩
 refine gc 4 F rfl fun _ F => ?_
 refine Ae (parts := []) Flat.u8 ([] : List UInt8) F s0 Abp rfl (by decide) rfl rfl rfl (by simp [Value.cells]) rfl rfl rfl fun v1 w0 _ F s1 => ?_
 obtain ⟨x0, h3, H⟩ := Aa H
 obtain ⟨_, hr_⟩ := (rdL hr0 s1)
 refine gw 1 F rfl fun _ F => Aw Flat.u8 F s1 Abp rfl rfl rfl rfl hr_ rfl rfl h3 rfl fun v2 w1 _ F s2 => ?_
 cases H
 exact gw 4 F rfl fun _ F => rt F ⟨v2, rfl, s2⟩
theorem AB9 {w : World} {v0_1 v0_2 v0_3 : Value} {a0 : LK} {a1 : Int} {r : GG × Bool} (hr0_1 : Rd Hw w [] v0_1 a0.Classes) (hr0_2 : Rd Ado w [] v0_2 a0.Funcs) (hr0_3 : Rd (Ty.slice Ty.u8) w [] v0_3 a0.Adm) (H : Avi a0 a1 = some r) :
    Calls prog 46 #[.agg ⟨[.string ⟨⟨a0.Name⟩⟩, v0_1, v0_2, v0_3]⟩, jI a1] w (Ret fun u_ w_ => ∃ u0 u1 : Value, u_ = .tuple ⟨[.agg ⟨[u0, u1, jI r.1.Fn]⟩, .bool r.2]⟩ ∧ SL w [] w_ [Sl Hw u0 r.1.Classes, Sl Ach u1 r.1.OS]) := by
 have s0 : SL w [] w [] := SL.Abr w
 refine cin func46 ntmps46 2 rfl rfl rfl fun _ F0 => ?_
 unfold Avi at H
 refine Ar F0 s0 rfl rfl rfl fun g0 w0 _ F s1 => Af F s1 Aj5 rfl rfl fun g1 w1 _ F s2 => gw 9 F rfl fun _ F => bsp 13 F H (fun h0 H F => ?_) (fun h0 H F => ?_)
 ·refine gw 11 F rfl fun _ F => gx F (Al (vs := []) Aj5 Auz rfl (cs := [.slice none 0 0, .slice none 0 0, jI 0]) (rfl)) 0 rfl rfl fun _ F => Ai F s2 rfl rfl Aoq (Ab rfl (Ab rfl (Ab rfl Ap))) (Ac rfl) fun w2 _ F s3 => ?_
  cases H
  refine gw 5 F rfl fun _ F => ?_
  refine Ak (rs := [.cell 4 110, .tmp 5]) (vs := [.agg ⟨[.slice none 0 0, .slice none 0 0, jI 0]⟩, .bool false]) F (by rfl) ⟨_, _, rfl, Am s3 m0 rfl Art rfl, _, _, rfl, Ao rfl, rfl⟩ ⟨_, rfl, ⟨(.slice none 0 0), (.slice none 0 0), rfl, (SL.Ac3 (T := Ach) (SL.Ac3 (T := Hw) s3)).f2.drop.f2.drop.f1⟩⟩
 refine gw 2 F rfl fun _ F => Lm F rfl rfl <| Ki F s2 m1 0 rfl fun _ F => Lm F rfl rfl <| gx F (Ah rfl underlying23 (fR hr0_2 s2)) 4 rfl rfl fun _ F => Ll F H 2 5 rfl rfl rfl (fun h1 H _ F => ?_) (fun h1 H _ F => ?_)
 ·refine gx F (Al (vs := []) Aj5 Auz rfl (cs := [.slice none 0 0, .slice none 0 0, jI 0]) (rfl)) 0 rfl rfl fun _ F => Ai F s2 rfl rfl Aoq (Ab rfl (Ab rfl (Ab rfl Ap))) (Ac rfl) fun w3 _ F s4 => ?_
  cases H
  refine gw 5 F rfl fun _ F => ?_
  refine Ak (rs := [.cell 4 110, .tmp 5]) (vs := [.agg ⟨[.slice none 0 0, .slice none 0 0, jI 0]⟩, .bool false]) F (by rfl) ⟨_, _, rfl, Am s4 m0 rfl Art rfl, _, _, rfl, Ao rfl, rfl⟩ ⟨_, rfl, ⟨(.slice none 0 0), (.slice none 0 0), rfl, (SL.Ac3 (T := Ach) (SL.Ac3 (T := Hw) s4)).f2.drop.f2.drop.f1⟩⟩
 refine gx F (Al (vs := [jI a1]) Aj5 Auz rfl (cs := [.slice none 0 0, .slice none 0 0, jI a1]) (rfl)) 0 rfl rfl fun _ F => Af F s2 Aj5 rfl rfl fun g2 w4 _ F s5 => Ai F s5 rfl rfl Aoq (Ab rfl (Ab rfl (Ab rfl Ap))) (Ac rfl) fun w5 _ F s6 => gw 6 F rfl fun _ F => Ki F s6 m2 0 rfl fun _ F => ?_
 obtain ⟨o0, H0, R0⟩ := Aa H
 clear H
 refine gx F (Ah rfl underlying22 (fR hr0_1 s6)) 3 rfl rfl fun _ F => Acs (fun a w_ => ∃ v0 : Value, Fr a 63 [(2, jP g0), (4, jP g1), (6, jP g2)] ∧ SL w [] w_ [Cw g2 110 [v0, .slice none 0 0, jI a1], Cw g1 110 [.slice none 0 0, .slice none 0 0, jI 0], Cw g0 26 [.string ⟨⟨a0.Name⟩⟩, v0_1, v0_2, v0_3], Sl Hw v0 o0]) ?_ ?_
 ·have H := H0
  refine gc 1 F rfl fun _ F => lpk (Apl a0) (fun s7 a w_ => ∃ v1 : Value, Fr a 63 [(2, jP g0), (4, jP g1), (6, jP g2), (24, v0_1), (25, jI (a0.Classes.length : Int)), (26, jI s7.2)] ∧ SL w [] w_ [Cw g2 110 [v1, .slice none 0 0, jI a1], Cw g1 110 [.slice none 0 0, .slice none 0 0, jI 0], Cw g0 26 [.string ⟨⟨a0.Name⟩⟩, v0_1, v0_2, v0_3], Sl Hw v1 s7.1]) H ?_ ?_
  ·exact ⟨(.slice none 0 0), F.sb, (SL.Ac3 (T := Hw) s6).f3.f3.f3⟩
  intro s7 _ w6 h2 o1 H hr
  obtain ⟨v1, F, s8⟩ := h2
  replace H : Apl a0 s7 = some o1 := H
  unfold Apl at H
  refine gc 6 F rfl fun _ F => Ll F H 6 4 rfl rfl rfl (fun h3 H _ F => ?_) (fun h3 H _ F => ?_)
  ·obtain ⟨x0, h4, H⟩ := Aa H
   obtain ⟨a2, c0, G0, h5, h6, h7, h8⟩ := Rd.idx hr0_1 Af2 rfl h4
   obtain ⟨v2, rfl, h9⟩ := (Ael h7 h8)
   replace h6 := h6 _ _ s8
   refine gi F h5 0 rfl fun _ F => gx F (Av Avm rfl h6 rfl) 0 rfl rfl fun _ F => Af F s8 Awt rfl rfl fun g3 w7 _ F s9 => Ai F s9 rfl rfl Az5 (Ab rfl (Ab rfl (Ab (Aq (fR h9 s9)) Ap))) (Ac rfl) fun w8 _ F sa => ?_
   obtain ⟨x1, ha, H⟩ := Aa H
   refine gw 5 F rfl fun _ F => Ki F sa m0 0 rfl fun _ F => std F (Amt (h9.M3 sa) ha) fun v3 w9 _ hb F => ?_
   obtain ⟨_, rfl, hc⟩ := hb
   have sc := sa.add hc
   refine gw 1 F rfl fun _ F => Ay F sc.f1 rfl rfl ABk (Ag (fO sc.f1 m1)) (Aq (fO sc.f1 m1)) rfl fun wa _ F sd => gw 4 F rfl fun _ F => Ki F sd m2 0 rfl fun _ F => Ki F sd m0 0 rfl fun _ F => ?_
   have se : SL w [] _ (Dt Hw (⟨x0.Name, x0.Ace, x1⟩ : BV) [.string ⟨⟨x0.Name⟩⟩, jI x0.Ace, v3] :: [Cw g3 103 [.string ⟨⟨x0.Name⟩⟩, jI x0.Ace, v3], Cw g2 110 [v1, .slice none 0 0, jI a1], Cw g1 110 [.slice none 0 0, .slice none 0 0, jI 0], Cw g0 26 [.string ⟨⟨a0.Name⟩⟩, v0_1, v0_2, v0_3], Sl Hw v1 s7.1]) := (SL.Ayp (f := Aor) (x := (⟨x0.Name, x0.Ace, x1⟩ : BV)) (SL.Ao4 (SL.Aqy (SL.Ao4 (SL.Aqy (SL.dsl sd.f1) (Flat.int .i64) x0.Ace)) Flat.str x0.Name)))
   refine Bd F se Af2 rfl (by decide) rfl rfl rfl fun v4 wb _ F sf => ?_
   obtain ⟨x2, hd, H⟩ := Aa H
   refine Bh F sf.f5 Af2 rfl rfl rfl rfl rfl rfl hd rfl fun v5 wc _ F sg => gw 1 F rfl fun _ F => Ay F sg.f2 rfl rfl AK7 (Ag (fO sg.f2 m1)) (Aq (fO sg.f2 m1)) rfl fun wd _ F sh => ?_
   cases H
   exact gw 7 F rfl fun _ F => ⟨_, rfl, v5, F.sb, sh.f2.drop.f1.f3.f3.f3⟩
  cases H
  obtain rfl := hr _ rfl
  exact ⟨v1, F.sb, s8⟩
 intro _ we hJ
 obtain ⟨v0, F, si⟩ := hJ
 have H := R0
 clear R0 H0
 refine ge 5 F rfl fun _ F => Ki F si m2 0 rfl fun _ F => ?_
 obtain ⟨o2, H1, R1⟩ := Aa H
 clear H
 refine gx F (Ah rfl underlying23 (fR hr0_2 si)) 3 rfl rfl fun _ F => Acs (fun a w_ => ∃ v6 : Value, Fr a 63 [(4, jP g1), (6, jP g2)] ∧ SL w [] w_ [Cw g2 110 [v0, v6, jI a1], Cw g1 110 [.slice none 0 0, .slice none 0 0, jI 0], Sl Hw v0 o0, Sl Ach v6 o2]) ?_ ?_
 ·have H := H1
  refine gc 1 F rfl fun _ F => lpk (Apd a0) (fun sj a w_ => ∃ v7 : Value, Fr a 63 [(4, jP g1), (6, jP g2), (42, v0_2), (43, jI (a0.Funcs.length : Int)), (44, jI sj.2)] ∧ SL w [] w_ [Cw g2 110 [v0, v7, jI a1], Cw g1 110 [.slice none 0 0, .slice none 0 0, jI 0], Sl Hw v0 o0, Sl Ach v7 sj.1]) H ?_ ?_
  ·exact ⟨(.slice none 0 0), F.sb, (SL.Ac3 (T := Ach) si).f3.drop.f3.f3.f3⟩
  intro sj _ wf he o3 H hr
  obtain ⟨v7, F, sk⟩ := he
  replace H : Apd a0 sj = some o3 := H
  unfold Apd at H
  refine gc 6 F rfl fun _ F => Ll F H 6 4 rfl rfl rfl (fun hf H _ F => ?_) (fun hf H _ F => ?_)
  ·obtain ⟨x3, hg, H⟩ := Aa H
   obtain ⟨a3, c1, G1, hh, hi, hj, hk⟩ := Rd.idx hr0_2 Api rfl hg
   obtain ⟨v8, v9, rfl, hl, hm⟩ := (An9 hj hk)
   replace hi := hi _ _ sk
   refine gi F hh 0 rfl fun _ F => gx F (Av As8 rfl hi rfl) 0 rfl rfl fun _ F => Af F sk Avu rfl rfl fun g4 wg _ F sl => Ai F sl rfl rfl Ayz (Ab rfl (Ab (Aq (fR hl sl)) (Ab rfl (Ab rfl (Ab (Aq (fR hm sl)) Ap))))) (Ac rfl) fun wh _ F sm => ?_
   obtain ⟨x4, hn, H⟩ := Aa H
   obtain ⟨x5, hp, H⟩ := Aa H
   refine gw 2 F rfl fun _ F => Ad4 Abj sm.f1.drop.f3.drop ?_
   have sn := sm.drew
   refine hq [0, 2, 3, 4, 6, 7, 8] F sn.f1.drop.f3.drop (QI.ev 3 rfl <| QI.ld m0 rfl <| QI.ev 2 rfl <| QI.ld m0 rfl <| QI.nil) (by kernel_rfl) fun _ F => ?_
   refine Aes [0, 1, 2, 3, 4, 5, 6, 7, 8, 9, 10] (fun a w_ => ∃ va : Value, Fr a 63 [(4, jP g1), (6, jP g2), (42, v0_2), (43, jI (a0.Funcs.length : Int)), (44, jI sj.2), (49, v7), (58, va)] ∧ SL w [] w_ [Cw g4 52 [.string ⟨⟨x3.Name⟩⟩, v8, jU (x3.Sig.Result.toNat : Int), jI x3.Locals, v9], Cw g1 110 [.slice none 0 0, .slice none 0 0, jI 0], Sl Hw v0 o0, Sl Ach va ([(⟨x4, x3.Sig.Result⟩ : Aa6)] : List Aa6), Sl Ach v7 sj.1, Cw g2 110 [v0, v7, jI a1]]) ?_ fun hD0 => ?_
   ·rintro a w_ ⟨va, F, so⟩
    refine ho 11 rfl (by kernel_rfl) ?_
    refine Bh F so.f3.f4 Ahb rfl rfl rfl rfl rfl rfl hp rfl fun vb wi _ F sp => gw 1 F rfl fun _ F => ⟨sp.drop.f3.drop, ?_⟩
    refine hq [12] F sp.drop.f3.drop (QI.ev 1 rfl <| QI.nil) (by kernel_rfl) fun _ F => ?_
    refine ho 13 rfl (by kernel_rfl) ?_
    refine Ay F sp.f4 rfl rfl A9q (Ag (fO sp.f4 m1)) (Aq (fO sp.f4 m1)) rfl fun wj _ F sq => gw 1 F rfl fun _ F => ⟨sq.drop.drop, ?_⟩
    refine Aew (by kernel_rfl) ?_
    cases H
    exact ge 6 F rfl fun _ F => ⟨_, rfl, vb, F.sb, sq.f2.drop.f1.f3.f3.f3⟩
   refine Aes [0, 1, 2, 3, 4, 5, 6, 7, 8, 9] (fun a w_ => ∃ vc : Value, Fr a 63 [(4, jP g1), (6, jP g2), (42, v0_2), (43, jI (a0.Funcs.length : Int)), (44, jI sj.2), (49, v7), (57, .agg ⟨[vc, jU (x3.Sig.Result.toNat : Int)]⟩)] ∧ SL w [] w_ [Cw g4 52 [.string ⟨⟨x3.Name⟩⟩, v8, jU (x3.Sig.Result.toNat : Int), jI x3.Locals, v9], Cw g1 110 [.slice none 0 0, .slice none 0 0, jI 0], Sl Hw v0 o0, Sl Ty.u8 vc x4, Sl Ach v7 sj.1, Cw g2 110 [v0, v7, jI a1]]) ?_ fun hD1 => ?_
   ·rintro a w_ ⟨vc, F, sr⟩
    refine ho 10 rfl (by kernel_rfl) ?_
    have ss : SL w [] _ (Dt Ach (⟨x4, x3.Sig.Result⟩ : Aa6) [vc, jU (x3.Sig.Result.toNat : Int)] :: [Cw g4 52 [.string ⟨⟨x3.Name⟩⟩, v8, jU (x3.Sig.Result.toNat : Int), jI x3.Locals, v9], Cw g1 110 [.slice none 0 0, .slice none 0 0, jI 0], Sl Hw v0 o0, Sl Ach v7 sj.1, Cw g2 110 [v0, v7, jI a1]]) := (SL.Ayp (f := Ajo) (x := (⟨x4, x3.Sig.Result⟩ : Aa6)) (SL.Ao4 (SL.dsl (SL.Aqy sr Flat.u8 x3.Sig.Result).f4)))
    refine Bd F ss Ahb rfl (by decide) rfl rfl rfl fun va wk _ F st => ?_
    exact gw 1 F rfl fun _ F => ⟨st.drop.f3.drop.f3.drop, hto hD0 ⟨va, F.sb, st.f5.f5.f2.f5.f5.f5⟩ (by kernel_rfl)⟩
   refine Aes [0, 1, 2, 3, 4, 5, 6, 7, 8] (fun a w_ => ∃ vc : Value, Fr a 63 [(4, jP g1), (6, jP g2), (42, v0_2), (43, jI (a0.Funcs.length : Int)), (44, jI sj.2), (49, v7), (53, vc), (56, jU (x3.Sig.Result.toNat : Int))] ∧ SL w [] w_ [Cw g4 52 [.string ⟨⟨x3.Name⟩⟩, v8, jU (x3.Sig.Result.toNat : Int), jI x3.Locals, v9], Cw g1 110 [.slice none 0 0, .slice none 0 0, jI 0], Sl Hw v0 o0, Sl Ty.u8 vc x4, Sl Ach v7 sj.1, Cw g2 110 [v0, v7, jI a1]]) ?_ fun hD2 => ?_
   ·rintro a w_ ⟨vc, F, su⟩
    refine ho 9 rfl (by kernel_rfl) ?_
    have hs := (fO su m3)
    refine gx F (Al (vs := [vc, jU (x3.Sig.Result.toNat : Int)]) Ars ADj rfl (cs := [vc, jU (x3.Sig.Result.toNat : Int)]) (by obtain ⟨_, _, e_0⟩ := hs; rw [e_0] <;> rfl)) 1 rfl rfl fun _ F => ?_
    exact ⟨su.f3.drop.f3.drop.f3.drop, hto hD1 ⟨vc, F.sb, su⟩ (by kernel_rfl)⟩
   refine ho2 1 5 rfl rfl (by kernel_rfl) ?_ ?_
   ·refine Ki F sn m1 1 rfl fun _ F => ⟨sn.f1.drop.f3.drop, ?_⟩
    refine ho 5 rfl (by kernel_rfl) ?_
    refine std F (Aj7 (hl.M3 sn) hn) fun vc wl _ ht F => ?_
    obtain ⟨_, rfl, hu⟩ := ht
    have sv := sn.add hu
    exact gw 1 F rfl fun _ F => ⟨sv.drop.f1.drop.f3.drop, hto hD2 ⟨vc, F.sb, sv.f2.f5.f2.f5.f5.f5⟩ (by kernel_rfl)⟩
   refine std F (Aj7 (hl.M3 sn) hn) fun vc wl _ ht F => ?_
   obtain ⟨_, rfl, hu⟩ := ht
   have sv := sn.add hu
   refine gw 1 F rfl fun _ F => ⟨sv.drop.f1.drop.f3.drop, ?_⟩
   refine ho2 1 9 rfl rfl (by kernel_rfl) ?_ ?_
   ·exact Ki F sv m2 1 rfl fun _ F => ⟨sv.drop.f1.drop.f3.drop, hto hD2 ⟨vc, F.sb, sv.f2.f5.f2.f5.f5.f5⟩ (by kernel_rfl)⟩
   have hs := (fO sv m0)
   refine gx F (Al (vs := [vc, jU (x3.Sig.Result.toNat : Int)]) Ars ADj rfl (cs := [vc, jU (x3.Sig.Result.toNat : Int)]) (by obtain ⟨_, _, e_0⟩ := hs; rw [e_0] <;> rfl)) 1 rfl rfl fun _ F => ?_
   refine ⟨sv.drop.f1.drop.f3.drop, ?_⟩
   refine ho2 1 10 rfl rfl (by kernel_rfl) ?_ ?_
   ·exact Ki F sv m2 1 rfl fun _ F => ⟨sv.drop.f1.drop.f3.drop, hto hD1 ⟨vc, F.sb, sv.f2.f5.f2.f5.f5.f5⟩ (by kernel_rfl)⟩
   have ss : SL w [] _ (Dt Ach (⟨x4, x3.Sig.Result⟩ : Aa6) [vc, jU (x3.Sig.Result.toNat : Int)] :: [Cw g4 52 [.string ⟨⟨x3.Name⟩⟩, v8, jU (x3.Sig.Result.toNat : Int), jI x3.Locals, v9], Cw g2 110 [v0, v7, jI a1], Cw g1 110 [.slice none 0 0, .slice none 0 0, jI 0], Sl Hw v0 o0, Sl Ach v7 sj.1]) := (SL.Ayp (f := Ajo) (x := (⟨x4, x3.Sig.Result⟩ : Aa6)) (SL.Ao4 (SL.dsl (SL.Aqy sv Flat.u8 x3.Sig.Result).f1)))
   refine Bd F ss Ahb rfl (by decide) rfl rfl rfl fun va wk _ F st => ?_
   refine gw 1 F rfl fun _ F => ⟨st.drop.f1.drop.f3.drop, ?_⟩
   refine ho 1 rfl (by kernel_rfl) ?_
   exact Ki F st m2 1 rfl fun _ F => ⟨st.drop.f1.drop.f3.drop, hto hD0 ⟨va, F.sb, st.f2.f5.f2.f5.f5.f5⟩ (by kernel_rfl)⟩
  cases H
  obtain rfl := hr _ rfl
  exact ⟨v7, F.sb, sk⟩
 intro _ wm hJ
 obtain ⟨v6, F, sw⟩ := hJ
 have H := R1
 clear R1 H1
 refine ge 3 F rfl fun _ F => Ki F sw m0 0 rfl fun _ F => Ai F sw.f1 rfl rfl Aoq (Ab (Aq (fO sw.f1 m2)) (Ab (Aq (fO sw.f1 m3)) (Ab rfl Ap))) (Ac rfl) fun wn _ F sx => ?_
 cases H
 refine gw 4 F rfl fun _ F => ?_
 refine Ak (rs := [.cell 4 110, .tmp 5]) (vs := [.agg ⟨[v0, v6, jI a1]⟩, .bool true]) F (by rfl) ⟨_, _, rfl, Am sx m0 rfl Art rfl, _, _, rfl, Ao rfl, rfl⟩ ⟨_, rfl, ⟨v0, v6, rfl, sx.drop.drop⟩⟩
theorem A6z {w : World} {a0 : Int} {r : B0 × Int} (H : Auk a0 = some r) :
    Calls prog 131 #[jI a0] w (Ret fun u_ w_ => u_ = .tuple ⟨[.agg ⟨(jI r.1.Locals :: jI r.1.Height :: XK r.1.Slots)⟩, jI r.2]⟩ ∧ SL w [] w_ []) := by
 have s0 : SL w [] w [] := SL.Abr w
 refine cin func131 ntmps131 2 rfl rfl rfl fun _ F0 => ?_
 unfold Auk at H
 refine Af F0 s0 Ol rfl rfl fun g8 w9 _ F s1 => gw 9 F rfl fun _ F => bsp 6 F H (fun h0 H F => ?_) (fun h0 H F => ?_)
 ·refine gw 8 F rfl fun _ F => gx F (Al (vs := []) Ol Adw rfl (cs := jZ) (Ac1)) 0 rfl rfl fun _ F => ?_
  refine O4 (ds := jZ) F s1 rfl rfl (by simpa using Aay) (Ab rfl (Ab rfl (Abi _))) (by simp) fun w0 _ F s2 => ?_
  cases H
  refine gw 5 F rfl fun _ F => ?_
  refine Ak (rs := [.cell 2 118, .tmp 3]) (vs := [.agg ⟨jZ⟩, jI 1]) F (by rfl) ⟨_, _, rfl, Am s2 m0 rfl Aa9 (by simp), _, _, rfl, Ao rfl, rfl⟩ ⟨_, rfl, ⟨rfl, s2.drop⟩⟩
 refine gw 5 F rfl fun _ F => Ll F H 2 5 rfl rfl rfl (fun h1 H _ F => ?_) (fun h1 H _ F => ?_)
 ·refine gx F (Al (vs := []) Ol Adw rfl (cs := jZ) (Ac1)) 0 rfl rfl fun _ F => ?_
  refine O4 (ds := jZ) F s1 rfl rfl (by simpa using Aay) (Ab rfl (Ab rfl (Abi _))) (by simp) fun w1 _ F s3 => ?_
  cases H
  refine gw 5 F rfl fun _ F => ?_
  refine Ak (rs := [.cell 2 118, .tmp 3]) (vs := [.agg ⟨jZ⟩, jI 1]) F (by rfl) ⟨_, _, rfl, Am s3 m0 rfl Aa9 (by simp), _, _, rfl, Ao rfl, rfl⟩ ⟨_, rfl, ⟨rfl, s3.drop⟩⟩
 refine gx F (Al (vs := [jI a0]) Ol Adw rfl (cs := (jI a0 :: jI 0 :: XK (Vector.replicate 24 (0 : UInt8)))) (Afm rfl rfl (by simp) <| Ac1)) 0 rfl rfl fun _ F => ?_
 refine O4 (ds := (jI a0 :: jI 0 :: XK (Vector.replicate 24 (0 : UInt8)))) F s1 rfl rfl (by simpa using Aay) (Ab rfl (Ab rfl (Abi _))) (by simp) fun w2 _ F s4 => ?_
 cases H
 refine gw 4 F rfl fun _ F => ?_
 refine Ak (rs := [.cell 2 118, .tmp 3]) (vs := [.agg ⟨(jI a0 :: jI 0 :: XK (Vector.replicate 24 (0 : UInt8)))⟩, jI 0]) F (by rfl) ⟨_, _, rfl, Am s4 m0 rfl Aa9 (by simp), _, _, rfl, Ao rfl, rfl⟩ ⟨_, rfl, ⟨rfl, s4.drop⟩⟩
theorem Ak8 {w : World} {v0 : Value} {a0 : List BV} {a1 : UInt8} {r : Int} (hr0 : Rd Hw w [] v0 a0) (H : Akn a0 a1 = some r) :
    Calls prog 158 #[v0, jU (a1.toNat : Int)] w (Ret fun u_ w_ => u_ = jI r ∧ SL w [] w_ []) := by
 have s0 : SL w [] w [] := SL.Abr w
 refine cin func158 ntmps158 11 rfl rfl rfl fun _ F => ?_
 unfold Akn at H
 refine bsp 7 F H (fun h0 H F => ?_) (fun h0 H F => ?_)
 ·cases H
  exact gw 17 F rfl fun _ F => rt F ⟨rfl, s0⟩
 refine gw 1 F rfl fun _ F => Lm F rfl rfl <| gx F (Ayr rfl rfl) 0 rfl rfl fun _ F => Lm F rfl rfl <| gx F (Arl rfl underlying48 underlying3) 1 rfl rfl fun _ F => Lm F rfl rfl <| gx F (Ah rfl underlying22 (fR hr0 s0)) 4 rfl rfl fun _ F => Ll F H 7 5 rfl rfl rfl (fun h1 H _ F => ?_) (fun h1 H _ F => ?_)
 ·cases H
  exact rt F ⟨rfl, s0⟩
 refine gx F (Ayr rfl rfl) 0 rfl rfl fun _ F => ?_
 cases H
 exact gx F (Arl rfl underlying48 underlying3) 4 rfl rfl fun _ F => rt F ⟨rfl, s0⟩
theorem Ak6 {w : World} {v0 : Value} {a0 : List BV} {a1 : UInt8} {r : Bool} (hr0 : Rd Hw w [] v0 a0) (H : Ai9 a0 a1 = some r) :
    Calls prog 132 #[v0, jU (a1.toNat : Int)] w (Ret fun u_ w_ => u_ = .bool r ∧ SL w [] w_ []) := by
 have s0 : SL w [] w [] := SL.Abr w
 refine cin func132 ntmps132 10 rfl rfl rfl fun _ F => ?_
 unfold Ai9 at H
 refine bsp 7 F H (fun h0 H F => ?_) (fun h0 H F => ?_)
 ·cases H
  exact gw 9 F rfl fun _ F => rt F ⟨rfl, s0⟩
 obtain ⟨x0, h1, H⟩ := Aa H
 refine gw 2 F rfl fun _ F => Lm F rfl rfl <| gca F s0 (Ak8 (hr0.M3 s0) h1) 6 rfl rfl rfl rfl fun w0 _ F s1 => ?_
 cases H
 exact rt F ⟨rfl, s1⟩
theorem Ar8 {w : World} {v0 v1 : Value} {a0 : List BV} {a1 : List UInt8} {a2 : Int} {r : B0 × Int} (hr0 : Rd Hw w [] v0 a0) (hr1 : Rd Ty.u8 w [] v1 a1) (H : Apb a0 a1 a2 = some r) :
    Calls prog 104 #[v0, v1, jI a2] w (Ret fun u_ w_ => u_ = .tuple ⟨[.agg ⟨(jI r.1.Locals :: jI r.1.Height :: XK r.1.Slots)⟩, jI r.2]⟩ ∧ SL w [] w_ []) := by
 have s0 : SL w [] w [] := SL.Abr w
 refine cin func104 ntmps104 2 rfl rfl rfl fun _ F0 => ?_
 unfold Apb at H
 refine Af F0 s0 Ol rfl rfl fun g8 w9 _ F s1 => ?_
 obtain ⟨x0, h0, H⟩ := Aa H
 refine gw 6 F rfl fun _ F => gca F s1 (A6z h0) 3 rfl rfl rfl rfl fun w0 _ F s2 => Af F s2 Ol rfl rfl fun g0 w1 _ F s3 => ?_
 refine O4 (ds := (jI x0.1.Locals :: jI x0.1.Height :: XK x0.1.Slots)) F s3 rfl rfl (by simpa using Aay) (Ab rfl (Ab rfl (Abi _))) (by simp) fun w2 _ F s4 => ?_
 refine gw 9 F rfl fun _ F => bsp 19 F H (fun h1 H F => ?_) (fun h1 H F => ?_)
 ·refine gw 15 F rfl fun _ F => gx F (Al (vs := []) Ol Adw rfl (cs := jZ) (Ac1)) 0 rfl rfl fun _ F => ?_
  refine O4 (ds := jZ) F s4.f1 rfl rfl (by simpa using Aay) (Ab rfl (Ab rfl (Abi _))) (by simp) fun w3 _ F s5 => ?_
  cases H
  refine gw 5 F rfl fun _ F => ?_
  refine Ak (rs := [.cell 6 118, .tmp 7]) (vs := [.agg ⟨jZ⟩, jI 1]) F (by rfl) ⟨_, _, rfl, Am s5 m0 rfl Aa9 (by simp), _, _, rfl, Ao rfl, rfl⟩ ⟨_, rfl, ⟨rfl, s5.drop.drop⟩⟩
 refine gw 1 F rfl fun _ F => Lm F rfl rfl <| gx F (Ah rfl underlying47 (fR hr1 s4)) 3 rfl rfl fun _ F => bsp 24 F H (fun h2 H F => ?_) (fun h2 H F => ?_)
 ·refine gw 10 F rfl fun _ F => gx F (Al (vs := []) Ol Adw rfl (cs := jZ) (Ac1)) 0 rfl rfl fun _ F => ?_
  refine O4 (ds := jZ) F s4.f1 rfl rfl (by simpa using Aay) (Ab rfl (Ab rfl (Abi _))) (by simp) fun w4 _ F s6 => ?_
  cases H
  refine gw 5 F rfl fun _ F => ?_
  refine Ak (rs := [.cell 6 118, .tmp 7]) (vs := [.agg ⟨jZ⟩, jI 1]) F (by rfl) ⟨_, _, rfl, Am s6 m0 rfl Aa9 (by simp), _, _, rfl, Ao rfl, rfl⟩ ⟨_, rfl, ⟨rfl, s6.drop.drop⟩⟩
 refine gw 1 F rfl fun _ F => Lm F rfl rfl <| gx F (Ah rfl underlying47 (fR hr1 s4)) 5 rfl rfl fun _ F => Ll F H 2 6 rfl rfl rfl (fun h3 H _ F => ?_) (fun h3 H _ F => ?_)
 ·refine gx F (Al (vs := []) Ol Adw rfl (cs := jZ) (Ac1)) 0 rfl rfl fun _ F => ?_
  refine O4 (ds := jZ) F s4.f1 rfl rfl (by simpa using Aay) (Ab rfl (Ab rfl (Abi _))) (by simp) fun w5 _ F s7 => ?_
  cases H
  refine gw 5 F rfl fun _ F => ?_
  refine Ak (rs := [.cell 6 118, .tmp 7]) (vs := [.agg ⟨jZ⟩, jI 1]) F (by rfl) ⟨_, _, rfl, Am s7 m0 rfl Aa9 (by simp), _, _, rfl, Ao rfl, rfl⟩ ⟨_, rfl, ⟨rfl, s7.drop.drop⟩⟩
 obtain ⟨o0, H0, R0⟩ := Aa H
 clear H
 refine gx F (Ah rfl underlying47 (fR hr1 s4)) 3 rfl rfl fun _ F => Acs (fun a w_ => ∃ p0 : (Vector UInt8 24), o0 = .inr (p0) ∧ Fr a 57 [(6, jP g8), (8, jP g0)] ∧ SL w [] w_ [Cw g0 118 (jI x0.1.Locals :: jI x0.1.Height :: XK p0), Cw g8 118 jZ]) ?_ ?_
 ·have H := H0
  refine gc 1 F rfl fun _ F => lpk (Amd a0 a1) (fun s8 a w_ => Fr a 57 [(0, v0), (6, jP g8), (8, jP g0), (31, v1), (32, jI (a1.length : Int)), (33, jI s8.2)] ∧ SL w [] w_ [Cw g0 118 (jI x0.1.Locals :: jI x0.1.Height :: XK s8.1), Cw g8 118 jZ]) H ?_ ?_
  ·exact ⟨F.sb, s4⟩
  intro s8 _ w6 h4 o1 H hr
  obtain ⟨F, s9⟩ := h4
  replace H : Amd a0 a1 s8 = some o1 := H
  unfold Amd at H
  refine gc 6 F rfl fun _ F => Ll F H 7 4 rfl rfl rfl (fun h5 H _ F => ?_) (fun h5 H _ F => ?_)
  ·obtain ⟨x1, h6, H⟩ := Aa H
   obtain ⟨a3, h7, h8⟩ := Alr Flat.u8 (rdL hr1 s9) Abp rfl h6
   refine gi F h7 0 rfl fun _ F => ?_
   obtain ⟨x2, h9, H⟩ := Aa H
   refine gx F (An Acy rfl (Abe.at_ h8 (o := 0) rfl)) 9 rfl rfl fun _ F => gca F s9 (Ak6 (hr0.M3 s9) h9) 2 rfl rfl rfl rfl fun w7 _ F sa => bsp 42 F H (fun ha H F => ?_) (fun ha H F => ?_)
   ·refine gw 12 F rfl fun _ F => gx F (Al (vs := []) Ol Adw rfl (cs := jZ) (Ac1)) 0 rfl rfl fun _ F => ?_
    refine O4 (ds := jZ) F sa.f1 rfl rfl (by simpa using Aay) (Ab rfl (Ab rfl (Abi _))) (by simp) fun w8 _ F sc => ?_
    cases H
    obtain rfl := hr _ rfl
    replace H := R0
    try dsimp only at H
    cases H
    refine gw 11 F rfl fun _ F => ?_
    refine Ak (rs := [.cell 6 118, .tmp 7]) (vs := [.agg ⟨jZ⟩, jI 1]) F (by rfl) ⟨_, _, rfl, Am sc m0 rfl Aa9 (by simp), _, _, rfl, Ao rfl, rfl⟩ ⟨_, rfl, ⟨rfl, sc.drop.drop⟩⟩
   refine gw 4 F rfl fun _ F => bsp 46 F H (fun hb H F => ?_) (fun hb H F => ?_)
   ·refine gw 8 F rfl fun _ F => gx F (Al (vs := []) Ol Adw rfl (cs := jZ) (Ac1)) 0 rfl rfl fun _ F => ?_
    refine O4 (ds := jZ) F sa.f1 rfl rfl (by simpa using Aay) (Ab rfl (Ab rfl (Abi _))) (by simp) fun wa _ F sd => ?_
    cases H
    obtain rfl := hr _ rfl
    replace H := R0
    try dsimp only at H
    cases H
    refine gw 11 F rfl fun _ F => ?_
    refine Ak (rs := [.cell 6 118, .tmp 7]) (vs := [.agg ⟨jZ⟩, jI 1]) F (by rfl) ⟨_, _, rfl, Am sd m0 rfl Aa9 (by simp), _, _, rfl, Ao rfl, rfl⟩ ⟨_, rfl, ⟨rfl, sd.drop.drop⟩⟩
   refine gw 5 F rfl fun _ F => Ll F H 2 6 rfl rfl rfl (fun hc H _ F => ?_) (fun hc H _ F => ?_)
   ·refine gx F (Al (vs := []) Ol Adw rfl (cs := jZ) (Ac1)) 0 rfl rfl fun _ F => ?_
    refine O4 (ds := jZ) F sa.f1 rfl rfl (by simpa using Aay) (Ab rfl (Ab rfl (Abi _))) (by simp) fun wb _ F se => ?_
    cases H
    obtain rfl := hr _ rfl
    replace H := R0
    try dsimp only at H
    cases H
    refine gw 11 F rfl fun _ F => ?_
    refine Ak (rs := [.cell 6 118, .tmp 7]) (vs := [.agg ⟨jZ⟩, jI 1]) F (by rfl) ⟨_, _, rfl, Am se m0 rfl Aa9 (by simp), _, _, rfl, Ao rfl, rfl⟩ ⟨_, rfl, ⟨rfl, se.drop.drop⟩⟩
   obtain ⟨x3, hd, H⟩ := Aa H
   refine gx F (Agt Ae9 hd rfl rfl) 0 rfl rfl fun _ F => Aoe (y' := x1) (pre := [jI x0.1.Locals, jI x0.1.Height]) F sa rfl hd rfl rfl Apn fun wc _ F sf => ?_
   cases H
   exact gw 7 F rfl fun _ F => ⟨_, rfl, F.sb, sf⟩
  cases H
  obtain rfl := hr _ rfl
  exact ⟨_, rfl, F.sb, s9⟩
 intro _ wd hJ
 obtain ⟨p0, rfl, F, sg⟩ := hJ
 have H := R0
 clear R0 H0
 try dsimp only at H
 refine ge 3 F rfl fun _ F => gla F sg m0 0 rfl fun _ F => ?_
 refine O4 (ds := (jI x0.1.Locals :: jI x0.1.Height :: XK p0)) F sg.f1 rfl rfl (by simpa using Aay) (Ab rfl (Ab rfl (Abi _))) (by simp) fun we _ F sh => ?_
 cases H
 refine gw 4 F rfl fun _ F => ?_
 refine Ak (rs := [.cell 6 118, .tmp 7]) (vs := [.agg ⟨(jI x0.1.Locals :: jI x0.1.Height :: XK p0)⟩, jI 0]) F (by rfl) ⟨_, _, rfl, Am sh m0 rfl Aa9 (by simp), _, _, rfl, Ao rfl, rfl⟩ ⟨_, rfl, ⟨rfl, sh.drop.drop⟩⟩
theorem Avz {w : World} {a0 : List UInt8} {r : Bool} (H : Aou a0 = some r) :
    Calls prog 151 #[.string ⟨⟨a0⟩⟩] w (Ret fun u_ w_ => u_ = .bool r ∧ SL w [] w_ []) := by
 have s0 : SL w [] w [] := SL.Abr w
 refine cin func151 ntmps151 9 rfl rfl rfl fun _ F => ?_
 unfold Aou at H
 refine gx F (Ar5 rfl underlying9) 2 rfl rfl fun _ F => bsp 8 F H (fun h0 H F => ?_) (fun h0 H F => ?_)
 ·cases H
  exact gw 14 F rfl fun _ F => rt F ⟨rfl, s0⟩
 refine gw 1 F rfl fun _ F => Lm F rfl rfl <| gx F (Ar5 rfl underlying9) 4 rfl rfl fun _ F => Ll F H 7 6 rfl rfl rfl (fun h1 H _ F => ?_) (fun h1 H _ F => ?_)
 ·cases H
  exact rt F ⟨rfl, s0⟩
 obtain ⟨o0, H0, R0⟩ := Aa H
 clear H
 refine gx F (Ar5 rfl underlying9) 3 rfl rfl fun _ F => Acs (fun a w_ => ∃ p0 : Unit, o0 = .inr (p0) ∧ Fr a 50 [] ∧ SL w [] w_ []) ?_ ?_
 ·have H := H0
  refine gc 1 F rfl fun _ F => lpk (Ajd a0) (fun s1 a w_ => Fr a 50 [(0, .string ⟨⟨a0⟩⟩), (14, jI (a0.length : Int)), (15, jI s1)] ∧ SL w [] w_ []) H ?_ ?_
  ·exact ⟨F.sb, s0⟩
  intro s1 _ w0 h2 o1 H hr
  obtain ⟨F, s2⟩ := h2
  replace H : Ajd a0 s1 = some o1 := H
  unfold Ajd at H
  refine gc 6 F rfl fun _ F => Ll F H 14 4 rfl rfl rfl (fun h3 H _ F => ?_) (fun h3 H _ F => ?_)
  ·obtain ⟨x0, h4, H⟩ := Aa H
   obtain ⟨o2, H1, R1⟩ := Aa H
   clear H
   refine gx F (ACp rfl rfl underlying9 h4) 5 rfl rfl fun _ F => Acs (fun a w_ => Fr a 50 [(0, .string ⟨⟨a0⟩⟩), (3, jI s1), (4, jU (x0.toNat : Int)), (14, jI (a0.length : Int)), (15, jI s1), (21, .bool o2)] ∧ SL w [] w_ []) ?_ ?_
   ·have H := H1
    refine gc 5 F rfl fun _ F => bsp 24 F H (fun h5 H F => ?_) (fun h5 H F => ?_)
    ·refine gw 6 F rfl fun _ F => Ll F H 1 4 rfl rfl rfl (fun h6 H _ F => ?_) (fun h6 H _ F => ?_)
     ·cases H
      exact ⟨F.sb, s2⟩
     refine bsp 30 F H (fun h7 H F => ?_) (fun h7 H F => ?_)
     ·cases H
      exact gw 5 F rfl fun _ F => ⟨F.sb, s2⟩
     cases H
     exact gw 5 F rfl fun _ F => ⟨F.sb, s2⟩
    refine gw 11 F rfl fun _ F => bsp 30 F H (fun h8 H F => ?_) (fun h8 H F => ?_)
    ·cases H
     exact gw 5 F rfl fun _ F => ⟨F.sb, s2⟩
    cases H
    exact gw 5 F rfl fun _ F => ⟨F.sb, s2⟩
   intro _ w1 hJ
   obtain ⟨F, s3⟩ := hJ
   have H := R1
   clear R1 H1
   refine ge 1 F rfl fun _ F => Ll F H 8 5 rfl rfl rfl (fun h9 H _ F => ?_) (fun h9 H _ F => ?_)
   ·cases H
    exact ⟨_, rfl, F.sb, s3⟩
   refine bsp 37 F H (fun ha H F => ?_) (fun ha H F => ?_)
   ·refine gw 3 F rfl fun _ F => bsp 40 F H (fun hb H F => ?_) (fun hb H F => ?_)
    ·refine gw 4 F rfl fun _ F => bsp 44 F H (fun hc H F => ?_) (fun hc H F => ?_)
     ·cases H
      exact gw 16 F rfl fun _ F => ⟨_, rfl, F.sb, s3⟩
     refine gw 7 F rfl fun _ F => Ll F H 8 13 rfl rfl rfl (fun hd H _ F => ?_) (fun hd H _ F => ?_)
     ·cases H
      exact ⟨_, rfl, F.sb, s3⟩
     cases H
     obtain rfl := hr _ rfl
     replace H := R0
     try dsimp only at H
     cases H
     exact rt F ⟨rfl, s3⟩
    refine gw 11 F rfl fun _ F => Ll F H 8 13 rfl rfl rfl (fun he H _ F => ?_) (fun he H _ F => ?_)
    ·cases H
     exact ⟨_, rfl, F.sb, s3⟩
    cases H
    obtain rfl := hr _ rfl
    replace H := R0
    try dsimp only at H
    cases H
    exact rt F ⟨rfl, s3⟩
   cases H
   obtain rfl := hr _ rfl
   replace H := R0
   try dsimp only at H
   cases H
   exact gw 28 F rfl fun _ F => rt F ⟨rfl, s3⟩
  cases H
  obtain rfl := hr _ rfl
  exact ⟨_, rfl, F.sb, s2⟩
 intro _ w2 hJ
 obtain ⟨p0, rfl, F, s4⟩ := hJ
 have H := R0
 clear R0 H0
 try dsimp only at H
 cases H
 exact ge 7 F rfl fun _ F => rt F ⟨rfl, s4⟩
theorem Au5 {w : World} {v0 : Value} {a0 : List (List UInt8)} {a1 : List UInt8} {r : Int} (hr0 : Rd Ty.str w [] v0 a0) (H : Ah6 a0 a1 = some r) :
    Calls prog 178 #[v0, .string ⟨⟨a1⟩⟩] w (Ret fun u_ w_ => u_ = jI r ∧ SL w [] w_ []) := by
 have s0 : SL w [] w [] := SL.Abr w
 refine cin func178 ntmps178 9 rfl rfl rfl fun _ F => ?_
 unfold Ah6 at H
 obtain ⟨o0, H0, R0⟩ := Aa H
 clear H
 refine gx F (Ah rfl underlying218 (fR hr0 s0)) 3 rfl rfl fun _ F => Acs (fun a w_ => ∃ p0 : Unit, o0 = .inr (p0) ∧ Fr a 19 [] ∧ SL w [] w_ []) ?_ ?_
 ·have H := H0
  refine gc 1 F rfl fun _ F => lpk (Ady a0 a1) (fun s1 a w_ => Fr a 19 [(0, v0), (1, .string ⟨⟨a1⟩⟩), (7, jI (a0.length : Int)), (8, jI s1)] ∧ SL w [] w_ []) H ?_ ?_
  ·exact ⟨F.sb, s0⟩
  intro s1 _ w0 h0 o1 H hr
  obtain ⟨F, s2⟩ := h0
  replace H : Ady a0 a1 s1 = some o1 := H
  unfold Ady at H
  refine gc 6 F rfl fun _ F => Ll F H 15 4 rfl rfl rfl (fun h1 H _ F => ?_) (fun h1 H _ F => ?_)
  ·obtain ⟨x0, h2, H⟩ := Aa H
   obtain ⟨a2, h3, h4⟩ := Alr Flat.str (rdL hr0 s2) Au2 rfl h2
   refine gi F h3 0 rfl fun _ F => gx F (An Am7 rfl (Abe.at_ h4 (o := 0) rfl)) 0 rfl rfl fun _ F => gx F (Ayt rfl rfl) 2 rfl rfl fun _ F => Ll F H 13 7 rfl rfl rfl (fun h5 H _ F => ?_) (fun h5 H _ F => ?_)
   ·cases H
    obtain rfl := hr _ rfl
    replace H := R0
    try dsimp only at H
    cases H
    exact rt F ⟨rfl, s2⟩
   cases H
   exact ⟨_, rfl, F.sb, s2⟩
  cases H
  obtain rfl := hr _ rfl
  exact ⟨_, rfl, F.sb, s2⟩
 intro _ w1 hJ
 obtain ⟨p0, rfl, F, s3⟩ := hJ
 have H := R0
 clear R0 H0
 try dsimp only at H
 cases H
 exact ge 7 F rfl fun _ F => rt F ⟨rfl, s3⟩
theorem An3 {w : World} {v0 : Value} {a0 : List (List UInt8)} {a1 : List UInt8} {r : Bool} (hr0 : Rd Ty.str w [] v0 a0) (H : Aei a0 a1 = some r) :
    Calls prog 152 #[v0, .string ⟨⟨a1⟩⟩] w (Ret fun u_ w_ => u_ = .bool r ∧ SL w [] w_ []) := by
 have s0 : SL w [] w [] := SL.Abr w
 refine cin func152 ntmps152 9 rfl rfl rfl fun _ F => ?_
 unfold Aei at H
 obtain ⟨x0, h0, H⟩ := Aa H
 refine gca F s0 (Au5 (hr0.M3 s0) h0) 5 rfl rfl rfl rfl fun w0 _ F s1 => ?_
 cases H
 exact rt F ⟨rfl, s1⟩
theorem A83 {w : World} {r : (List (List UInt8))} (H : Ave = some r) :
    Calls prog 153 #[] w (Ret fun u_ w_ => ∃ u0 : Value, u_ = u0 ∧ SL w [] w_ [Sl Ty.str u0 r]) := by
 have s0 : SL w [] w [] := SL.Abr w
 refine cin func153 ntmps153 7 rfl rfl rfl fun _ F2 => ?_
 unfold Ave at H
 refine Ae (parts := [(0, .const (.string ⟨⟨[116, 111, 112]⟩⟩)), (1, .const (.string ⟨⟨[105, 110, 116]⟩⟩)), (2, .const (.string ⟨⟨[98, 111, 111, 108]⟩⟩)), (3, .const (.string ⟨⟨[110, 117, 108, 108]⟩⟩)), (4, .const (.string ⟨⟨[105, 110, 116, 115]⟩⟩)), (5, .const (.string ⟨⟨[97, 110, 121]⟩⟩))]) Flat.str ([[116, 111, 112], [105, 110, 116], [98, 111, 111, 108], [110, 117, 108, 108], [105, 110, 116, 115], [97, 110, 121]] : List (List UInt8)) F2 s0 Au2 rfl (by decide) rfl rfl rfl (by simp [Value.cells]) rfl rfl rfl fun v0 w0 _ F s1 => ?_
 cases H
 exact gw 4 F rfl fun _ F => rt F ⟨v0, rfl, s1⟩
theorem A3q {w : World} {FF : List Nat} {g1 : Nat} {v0_2 v1_2 : Value} {a0 : BV} {a1 : BV} {r : Bool} (hst : Acd [Cw g1 103 [.string ⟨⟨a1.Name⟩⟩, jI a1.Ace, v1_2]] w FF) (hr0_2 : Rd Ad8 w FF v0_2 a0.Fields) (hr1_2 : Rd Ad8 w FF v1_2 a1.Fields) (H : Aqq a0 a1 = some r) :
    Calls prog 155 #[.agg ⟨[.string ⟨⟨a0.Name⟩⟩, jI a0.Ace, v0_2]⟩, jP g1] w (Ret fun u_ w_ => u_ = .bool r ∧ SL w FF w_ [Cw g1 103 [.string ⟨⟨a1.Name⟩⟩, jI a1.Ace, v1_2]]) := by
 have s0 : SL w FF w [Cw g1 103 [.string ⟨⟨a1.Name⟩⟩, jI a1.Ace, v1_2]] := SL.init w FF hst
 refine cin func155 ntmps155 2 rfl rfl rfl fun _ F0 => ?_
 unfold Aqq at H
 refine Ar F0 s0 rfl rfl rfl fun g8 w9 _ F s1 => gw 6 F rfl fun _ F => Ki F s1 m0 1 rfl fun _ F => Ki F s1 m1 0 rfl fun _ F => ?_
 cases H
 exact gx F (Ayt rfl rfl) 4 rfl rfl fun _ F => rt F ⟨rfl, s1.drop⟩
theorem Am8 {w : World} {FF : List Nat} {g0 : Nat} {v0 v200_2 : Value} {a0 : List BV} {a200 : BV} {r : Int} (hst : Acd [Cw g0 103 [.string ⟨⟨a200.Name⟩⟩, jI a200.Ace, v200_2]] w FF) (hr0 : Rd Hw w FF v0 a0) (hr200_2 : Rd Ad8 w FF v200_2 a200.Fields) (H : Ae1 a0 a200 = some r) :
    Calls prog 179 #[v0, clo 155 [jP g0]] w (Ret fun u_ w_ => u_ = jI r ∧ SL w FF w_ [Cw g0 103 [.string ⟨⟨a200.Name⟩⟩, jI a200.Ace, v200_2]]) := by
 have s0 : SL w FF w [Cw g0 103 [.string ⟨⟨a200.Name⟩⟩, jI a200.Ace, v200_2]] := SL.init w FF hst
 refine cin func179 ntmps179 9 rfl rfl rfl fun _ F => ?_
 unfold Ae1 at H
 obtain ⟨o0, H0, R0⟩ := Aa H
 clear H
 refine gx F (Ah rfl underlying22 (fR hr0 s0)) 3 rfl rfl fun _ F => Acs (fun a w_ => ∃ p0 : Unit, o0 = .inr (p0) ∧ Fr a 19 [] ∧ SL w FF w_ [Cw g0 103 [.string ⟨⟨a200.Name⟩⟩, jI a200.Ace, v200_2]]) ?_ ?_
 ·have H := H0
  refine gc 1 F rfl fun _ F => lpk (Adb a0 a200) (fun s1 a w_ => Fr a 19 [(0, v0), (1, clo 155 [jP g0]), (7, jI (a0.length : Int)), (8, jI s1)] ∧ SL w FF w_ [Cw g0 103 [.string ⟨⟨a200.Name⟩⟩, jI a200.Ace, v200_2]]) H ?_ ?_
  ·exact ⟨F.sb, s0⟩
  intro s1 _ w0 h0 o1 H hr
  obtain ⟨F, s2⟩ := h0
  replace H : Adb a0 a200 s1 = some o1 := H
  unfold Adb at H
  refine gc 6 F rfl fun _ F => Ll F H 12 4 rfl rfl rfl (fun h1 H _ F => ?_) (fun h1 H _ F => ?_)
  ·obtain ⟨x0, h2, H⟩ := Aa H
   obtain ⟨a2, c0, G0, h3, h4, h5, h6⟩ := Rd.idx hr0 Af2 rfl h2
   obtain ⟨v1, rfl, h7⟩ := (Ael h5 h6)
   replace h4 := h4 _ _ s2
   obtain ⟨x1, h8, H⟩ := Aa H
   refine gw 3 F rfl fun _ F => gi F h3 0 rfl fun _ F => gx F (Av Avm rfl h4 rfl) 0 rfl rfl fun _ F => ?_
   obtain ⟨G1, h9, ha, hb, hc⟩ := SL.open_ (ps := [Cw g0 103 [.string ⟨⟨a200.Name⟩⟩, jI a200.Ace, v200_2]]) (rest := []) s2
   refine Aky (args := [.tmp 15]) F AIb rfl rfl (A3q (a0 := x0) (a1 := (⟨a200.Name, a200.Ace, a200.Fields⟩ : BV)) h9 (h7.pass s2 ha) (hr200_2.pass s2 ha) h8) rfl fun v2 w1 _ hd F => ?_
   obtain ⟨rfl, he⟩ := hd
   have s3 := hc _ _ he
   refine gw 2 F rfl fun _ F => Ll F H 13 7 rfl rfl rfl (fun hf H _ F => ?_) (fun hf H _ F => ?_)
   ·cases H
    obtain rfl := hr _ rfl
    replace H := R0
    try dsimp only at H
    cases H
    exact rt F ⟨rfl, s3⟩
   cases H
   exact ⟨_, rfl, F.sb, s3⟩
  cases H
  obtain rfl := hr _ rfl
  exact ⟨_, rfl, F.sb, s2⟩
 intro _ w2 hJ
 obtain ⟨p0, rfl, F, s4⟩ := hJ
 have H := R0
 clear R0 H0
 try dsimp only at H
 cases H
 exact ge 7 F rfl fun _ F => rt F ⟨rfl, s4⟩
theorem Amf {w : World} {FF : List Nat} {g0 : Nat} {v0 v200_2 : Value} {a0 : List BV} {a200 : BV} {r : Bool} (hst : Acd [Cw g0 103 [.string ⟨⟨a200.Name⟩⟩, jI a200.Ace, v200_2]] w FF) (hr0 : Rd Hw w FF v0 a0) (hr200_2 : Rd Ad8 w FF v200_2 a200.Fields) (H : Ad1 a0 a200 = some r) :
    Calls prog 154 #[v0, clo 155 [jP g0]] w (Ret fun u_ w_ => u_ = .bool r ∧ SL w FF w_ [Cw g0 103 [.string ⟨⟨a200.Name⟩⟩, jI a200.Ace, v200_2]]) := by
 have s0 : SL w FF w [Cw g0 103 [.string ⟨⟨a200.Name⟩⟩, jI a200.Ace, v200_2]] := SL.init w FF hst
 refine cin func154 ntmps154 9 rfl rfl rfl fun _ F => ?_
 unfold Ad1 at H
 obtain ⟨x0, h0, H⟩ := Aa H
 obtain ⟨G0, h1, h2, h3, h4⟩ := SL.open_ (ps := [Cw g0 103 [.string ⟨⟨a200.Name⟩⟩, jI a200.Ace, v200_2]]) (rest := []) s0
 refine std F (Am8 (a200 := (⟨a200.Name, a200.Ace, a200.Fields⟩ : BV)) h1 (hr0.pass s0 h2) (hr200_2.pass s0 h2) h0) fun v1 w0 _ h5 F => ?_
 obtain ⟨rfl, h6⟩ := h5
 have s1 := h4 _ _ h6
 cases H
 exact gw 5 F rfl fun _ F => rt F ⟨rfl, s1⟩
theorem A66 {w : World} {v0 : Value} {a0 : List BV} {a1 : UInt8} {r : Bool} (hr0 : Rd Hw w [] v0 a0) (H : Arr a0 a1 = some r) :
    Calls prog 181 #[v0, jU (a1.toNat : Int)] w (Ret fun u_ w_ => u_ = .bool r ∧ SL w [] w_ []) := by
 have s0 : SL w [] w [] := SL.Abr w
 refine cin func181 ntmps181 10 rfl rfl rfl fun _ F => ?_
 unfold Arr at H
 refine bsp 7 F H (fun h0 H F => ?_) (fun h0 H F => ?_)
 ·cases H
  exact gw 21 F rfl fun _ F => rt F ⟨rfl, s0⟩
 refine gw 4 F rfl fun _ F => bsp 11 F H (fun h1 H F => ?_) (fun h1 H F => ?_)
 ·cases H
  exact gw 17 F rfl fun _ F => rt F ⟨rfl, s0⟩
 refine gw 4 F rfl fun _ F => bsp 15 F H (fun h2 H F => ?_) (fun h2 H F => ?_)
 ·cases H
  exact gw 13 F rfl fun _ F => rt F ⟨rfl, s0⟩
 refine gw 4 F rfl fun _ F => bsp 19 F H (fun h3 H F => ?_) (fun h3 H F => ?_)
 ·cases H
  exact gw 9 F rfl fun _ F => rt F ⟨rfl, s0⟩
 obtain ⟨x0, h4, H⟩ := Aa H
 refine gw 2 F rfl fun _ F => Lm F rfl rfl <| gca F s0 (Ak8 (hr0.M3 s0) h4) 6 rfl rfl rfl rfl fun w0 _ F s1 => ?_
 cases H
 exact rt F ⟨rfl, s1⟩
theorem A2l {w : World} {FF : List Nat} {g1 g2 : Nat} {v1_0 v2_0 : Value} {a0 : Int} {a1 : List BV} {a2 : List (List UInt8)} {r : Bool × (List (List UInt8))} (hst : Acd [Cw g1 22 [v1_0], Cw g2 218 [v2_0], Sl Ty.str v2_0 a2] w FF) (hr1_0 : Rd Hw w FF v1_0 a1) (H : Anw a0 a1 a2 = some r) :
    Calls prog 180 #[jI a0, jP g1, jP g2] w (Ret fun u_ w_ => ∃ u0 : Value, u_ = .bool r.1 ∧ SL w FF w_ [Cw g1 22 [v1_0], Cw g2 218 [u0], Sl Ty.str u0 r.2]) := by
 have s0 : SL w FF w [Cw g1 22 [v1_0], Cw g2 218 [v2_0], Sl Ty.str v2_0 a2] := SL.init w FF hst
 refine cin func180 ntmps180 8 rfl rfl rfl fun _ F2 => ?_
 unfold Anw at H
 obtain ⟨x0, h0, H⟩ := Aa H
 obtain ⟨a3, c0, G0, h1, h2, h3, h4⟩ := Rd.idx hr1_0 Af2 rfl h0
 obtain ⟨v0, rfl, h5⟩ := (Ael h3 h4)
 replace h2 := h2 _ _ s0
 refine Ki F2 s0 m0 1 rfl fun _ F => gi F h1 0 rfl fun _ F => gx F (Ba Ap4 rfl) 0 rfl rfl fun _ F => gx F (An Arj rfl (Abe.at_ h2 (o := 2) rfl)) 0 rfl rfl fun _ F => ?_
 obtain ⟨o0, H0, R0⟩ := Aa H
 clear H
 refine gx F (Ah rfl underlying101 (fR h5 s0)) 3 rfl rfl fun _ F => Acs (fun a w_ => ∃ v1 : Value, Fr a 23 [] ∧ SL w FF w_ [Cw g1 22 [v1_0], Cw g2 218 [v1], Sl Ty.str v1 o0]) ?_ ?_
 ·have H := H0
  refine gc 1 F rfl fun _ F => lpk (Aio x0) (fun s1 a w_ => ∃ v2 : Value, Fr a 23 [(2, jP g2), (11, v0), (12, jI (x0.Fields.length : Int)), (13, jI s1.2)] ∧ SL w FF w_ [Cw g1 22 [v1_0], Cw g2 218 [v2], Sl Ty.str v2 s1.1]) H ?_ ?_
  ·exact ⟨v2_0, F.sb, s0⟩
  intro s1 _ w0 h6 o1 H hr
  obtain ⟨v2, F, s2⟩ := h6
  replace H : Aio x0 s1 = some o1 := H
  unfold Aio at H
  refine gc 6 F rfl fun _ F => Ll F H 6 4 rfl rfl rfl (fun h7 H _ F => ?_) (fun h7 H _ F => ?_)
  ·obtain ⟨x1, h8, H⟩ := Aa H
   obtain ⟨a4, h9, ha⟩ := Alr Agh (rdL h5 s2) Aks rfl h8
   refine gi F h9 0 rfl fun _ F => gx F (Av Avs rfl ha rfl) 0 rfl rfl fun _ F => Af F s2 Azz rfl rfl fun g0 w1 _ F s3 => Ai F s3 rfl rfl A4z (Ab rfl (Ab rfl Ap)) (Ac rfl) fun w2 _ F s4 => gw 3 F rfl fun _ F => Ki F s4 m2 1 rfl fun _ F => Ki F s4 m0 0 rfl fun _ F => ?_
   refine Ae (parts := [(0, .tmp 19)]) Flat.str ([x1.Name] : List (List UInt8)) F s4 Au2 rfl (by decide) rfl rfl rfl (by simp [Value.cells]) rfl rfl rfl fun v3 w3 _ F s5 => ?_
   obtain ⟨x2, hb, H⟩ := Aa H
   obtain ⟨_, hr_⟩ := (s5.f4.Ac5 m1)
   refine Aw Flat.str F s5.f4 Au2 rfl rfl rfl rfl hr_ rfl rfl hb rfl fun v4 w4 _ F s6 => ?_
   have s3135' := s6.f1.drop
   have s7 := s3135'.f3
   refine Ay F s7 rfl rfl AA9 (Ag (fO s7 m1)) (Aq (fO s7 m1)) rfl fun w5 _ F s8 => ?_
   cases H
   exact gw 7 F rfl fun _ F => ⟨_, rfl, v4, F.sb, s8.f2.drop.f1.f1.f2⟩
  cases H
  obtain rfl := hr _ rfl
  exact ⟨v2, F.sb, s2⟩
 intro _ w6 hJ
 obtain ⟨v1, F, s9⟩ := hJ
 have H := R0
 clear R0 H0
 cases H
 exact ge 7 F rfl fun _ F => rt F ⟨v1, rfl, s9⟩
theorem Aws {w : World} {FF : List Nat} {g0 g1 : Nat} {v0 v300_0 v301_0 : Value} {a0 : List BV} {a1 : Int} {a300 : List BV} {a301 : List (List UInt8)} {r : (List (List UInt8))} (hst : Acd [Cw g0 22 [v300_0], Cw g1 218 [v301_0], Sl Ty.str v301_0 a301] w FF) (hr0 : Rd Hw w FF v0 a0) (hr300_0 : Rd Hw w FF v300_0 a300) (H : Aje a0 a1 a300 a301 = some r) :
    Calls prog 99 #[v0, jI a1, clo 180 [jP g0, jP g1]] w (Ret fun u_ w_ => ∃ u0 : Value, u_ = .tuple ⟨[]⟩ ∧ SL w FF w_ [Cw g0 22 [v300_0], Cw g1 218 [u0], Sl Ty.str u0 r]) := by
 have s0 : SL w FF w [Cw g0 22 [v300_0], Cw g1 218 [v301_0], Sl Ty.str v301_0 a301] := SL.init w FF hst
 refine cin func99 ntmps99 0 rfl rfl rfl fun _ F0 => ?_
 unfold Aje at H
 obtain ⟨o0, H0, R0⟩ := Aa H
 clear H
 refine Acs (fun a w_ => ∃ p0 : (List (List UInt8)), o0 = .inr (p0) ∧ ∃ v1 : Value, Fr a 29 [] ∧ SL w FF w_ [Cw g0 22 [v300_0], Cw g1 218 [v1], Sl Ty.str v1 p0]) ?_ ?_
 ·have H := H0
  refine gc 1 F0 rfl fun _ F0 => lpk (Afr a0 a300) (fun s1 a w_ => ∃ v2 : Value, Fr a 29 [(0, v0), (1, jI s1.2), (2, clo 180 [jP g0, jP g1])] ∧ SL w FF w_ [Cw g0 22 [v300_0], Cw g1 218 [v2], Sl Ty.str v2 s1.1]) H ?_ ?_
  ·exact ⟨v301_0, F0.sb, s0⟩
  intro s1 _ w0 h0 o1 H hr
  obtain ⟨v2, F, s2⟩ := h0
  replace H : Afr a0 a300 s1 = some o1 := H
  unfold Afr at H
  refine gc 6 F rfl fun _ F => bsp 9 F H (fun h1 H F => ?_) (fun h1 H F => ?_)
  ·refine gw 2 F rfl fun _ F => Lm F rfl rfl <| gx F (Ah rfl underlying22 (fR hr0 s2)) 3 rfl rfl fun _ F => bsp 15 F H (fun h2 H F => ?_) (fun h2 H F => ?_)
   ·obtain ⟨x0, h3, H⟩ := Aa H
    refine gw 2 F rfl fun _ F => Lm F rfl rfl ?_
    obtain ⟨G0, h4, h5, h6, h7⟩ := SL.open_ (ps := [Cw g0 22 [v300_0], Cw g1 218 [v2], Sl Ty.str v2 s1.1]) (rest := []) s2.f2.f2.f2
    refine Aky (args := [.tmp 17]) F AJn rfl rfl (A2l (a0 := s1.2) (a1 := a300) (a2 := s1.1) h4 (hr300_0.pass s2.f2.f2.f2 h5) h3) rfl fun v3 w1 _ h8 F => ?_
    obtain ⟨v4, rfl, h9⟩ := h8
    have s3 := h7 _ _ h9
    refine gw 3 F rfl fun _ F => Ll F H 5 4 rfl rfl rfl (fun ha H _ F => ?_) (fun ha H _ F => ?_)
    ·obtain ⟨x1, hb, H⟩ := Aa H
     obtain ⟨a3, c0, G1, hc, hd, he, hf⟩ := Rd.idx hr0 Af2 rfl hb
     obtain ⟨v5, rfl, hg⟩ := (Ael he hf)
     replace hd := hd _ _ s3
     refine gw 2 F rfl fun _ F => gi F hc 0 rfl fun _ F => gx F (Ba Aln rfl) 0 rfl rfl fun _ F => gx F (An Acx rfl (Abe.at_ hd (o := 1) rfl)) 11 rfl rfl fun _ F => Ll F H 6 7 rfl rfl rfl (fun hh H _ F => ?_) (fun hh H _ F => ?_)
     ·cases H
      obtain rfl := hr _ rfl
      replace H := R0
      try dsimp only at H
      cases H
      exact rt F ⟨v4, rfl, s3⟩
     cases H
     exact ⟨_, rfl, v4, F.sb, s3⟩
    cases H
    obtain rfl := hr _ rfl
    exact ⟨_, rfl, v4, F.sb, s3⟩
   cases H
   obtain rfl := hr _ rfl
   exact gw 11 F rfl fun _ F => ⟨_, rfl, v2, F.sb, s2⟩
  cases H
  obtain rfl := hr _ rfl
  exact gw 17 F rfl fun _ F => ⟨_, rfl, v2, F.sb, s2⟩
 intro _ w2 hJ
 obtain ⟨p0, rfl, v1, F, s4⟩ := hJ
 have H := R0
 clear R0 H0
 try dsimp only at H
 cases H
 exact A24 F (by rfl) ⟨_, rfl, ⟨v1, rfl, s4⟩⟩
theorem A6y {w : World} {v0 : Value} {a0 : List BV} {a1 : Int} {r : Int} (hr0 : Rd Hw w [] v0 a0) (H : Aqz a0 a1 = some r) :
    Calls prog 156 #[v0, jI a1] w (Ret fun u_ w_ => u_ = jI r ∧ SL w [] w_ []) := by
 have s0 : SL w [] w [] := SL.Abr w
 refine cin func156 ntmps156 2 rfl rfl rfl fun _ F0 => ?_
 unfold Aqz at H
 refine Ar F0 s0 rfl (Ag (fR hr0 s0)) rfl fun g8 w9 _ F s1 => gw 5 F rfl fun _ F => Af F s1 ADy rfl rfl fun g0 w0 _ F s2 => ?_
 obtain ⟨x0, h0, H⟩ := Aa H
 obtain ⟨x1, h1, H⟩ := Aa H
 refine gw 3 F rfl fun _ F => Ad4 Abj s2.drop ?_
 obtain ⟨a2, c0, G0, h2, h3, h4, h5⟩ := Rd.idx hr0 Af2 rfl h0
 obtain ⟨v1, rfl, h6⟩ := (Ael h4 h5)
 have hc144_ := h3; clear h3; have h3 := fun w_ (hC : SL w [] w_ [Cw g8 22 [v0]]) => hc144_ _ _ hC
 refine hq [0, 1, 2, 3, 4, 5, 6] F s2.drew.drop (QI.ld m0 rfl <| QI.ld m0 rfl <| QI.ev 1 rfl <| QI.ix h2 rfl <| QI.op rfl (fun _ hC => Ba Aln rfl) rfl <| QI.op rfl (fun _ hC => An Acx rfl (Abe.at_ (h3 _ hC) (o := 1) rfl)) rfl <| QI.op rfl (fun _ hC => Ajn (cs := [.tmp 2, .tmp 5]) (vs := [jP g8, jP g0]) rfl) rfl <| QI.nil) (by kernel_rfl) fun _ F => ?_
 refine ho 7 rfl (by kernel_rfl) ?_
 have s3 := (SL.Ac3 (T := Ty.str) s2.drew).f1.f2
 obtain ⟨G1, h7, h8, h9, ha⟩ := SL.open_ (ps := [Cw g8 22 [v0], Cw g0 218 [.slice none 0 0], Sl Ty.str (.slice none 0 0) []]) (rest := []) s3
 refine std F (Aws (a300 := a0) (a301 := []) h7 (hr0.pass s3 h8) (hr0.pass s3 h8) h1) fun v2 w1 _ hb F => ?_
 obtain ⟨v3, rfl, hc⟩ := hb
 have s4 := ha _ _ hc
 refine gw 1 F rfl fun _ F => ⟨s4.f1.drop.f1.drop, ?_⟩
 refine Aew (by kernel_rfl) ?_
 obtain ⟨x2, hd, H⟩ := Aa H
 obtain ⟨a3, c1, G2, he, hf, hg, hh⟩ := Rd.idx hr0 Af2 rfl hd
 refine ge 4 F rfl fun _ F => ?_
 obtain ⟨v4, rfl, hi⟩ := (Ael hg hh)
 replace hf := hf _ _ s4
 refine Ki F s4 m0 1 rfl fun _ F => gi F he 0 rfl fun _ F => gx F (Ba Ap4 rfl) 0 rfl rfl fun _ F => gx F (An Arj rfl (Abe.at_ hf (o := 2) rfl)) 0 rfl rfl fun _ F => ?_
 obtain ⟨o0, H0, R0⟩ := Aa H
 clear H
 refine gx F (Ah rfl underlying101 (fR hi s4)) 3 rfl rfl fun _ F => Acs (fun a w_ => ∃ p0 : (List (List UInt8)), o0 = .inr (p0) ∧ ∃ v5 : Value, Fr a 51 [(5, jP g0)] ∧ SL w [] w_ [Cw g0 218 [v5], Sl Ty.str v5 p0]) ?_ ?_
 ·have H := H0
  refine gc 1 F rfl fun _ F => lpk (Ajj a0 x2) (fun s5 a w_ => ∃ v6 : Value, Fr a 51 [(2, jP g8), (5, jP g0), (20, v4), (21, jI (x2.Fields.length : Int)), (22, jI s5.2)] ∧ SL w [] w_ [Cw g8 22 [v0], Cw g0 218 [v6], Sl Ty.str v6 s5.1]) H ?_ ?_
  ·exact ⟨v3, F.sb, s4⟩
  intro s5 _ w2 hj o1 H hr
  obtain ⟨v6, F, s6⟩ := hj
  replace H : Ajj a0 x2 s5 = some o1 := H
  unfold Ajj at H
  refine gc 6 F rfl fun _ F => Ll F H 6 4 rfl rfl rfl (fun hk H _ F => ?_) (fun hk H _ F => ?_)
  ·obtain ⟨x3, hl, H⟩ := Aa H
   obtain ⟨a4, hm, hn⟩ := Alr Agh (rdL hi s6) Aks rfl hl
   refine gi F hm 0 rfl fun _ F => gx F (Av Avs rfl hn rfl) 0 rfl rfl fun _ F => Af F s6 Azz rfl rfl fun g1 w3 _ F s7 => Ai F s7 rfl rfl A4z (Ab rfl (Ab rfl Ap)) (Ac rfl) fun w4 _ F s8 => ?_
   obtain ⟨x4, hp, H⟩ := Aa H
   refine gw 7 F rfl fun _ F => Ki F s8 m0 0 rfl fun _ F => gca F s8 (Avz hp) 4 rfl rfl rfl rfl fun w5 _ F s9 => Ll F H 14 2 rfl rfl rfl (fun hs H _ F => ?_) (fun hs H _ F => ?_)
   ·cases H
    obtain rfl := hr _ rfl
    replace H := R0
    try dsimp only at H
    cases H
    exact rt F ⟨rfl, s9.drop.drop.drop.drop⟩
   obtain ⟨x5, ht, H⟩ := Aa H
   refine Ki F s9 m2 1 rfl fun _ F => Ki F s9 m0 0 rfl fun _ F => gca F s9 (An3 (s9.rd0 m3) ht) 3 rfl rfl rfl rfl fun w6 _ F sa => Ll F H 14 2 rfl rfl rfl (fun hu H _ F => ?_) (fun hu H _ F => ?_)
   ·cases H
    obtain rfl := hr _ rfl
    replace H := R0
    try dsimp only at H
    cases H
    exact rt F ⟨rfl, sa.drop.drop.drop.drop⟩
   obtain ⟨x6, hv, H⟩ := Aa H
   refine Ki F sa m1 1 rfl fun _ F => Ki F sa m0 0 rfl fun _ F => gca F sa (A66 (hr0.M3 sa) hv) 4 rfl rfl rfl rfl fun w7 _ F sc => Ll F H 14 4 rfl rfl rfl (fun hw H _ F => ?_) (fun hw H _ F => ?_)
   ·cases H
    obtain rfl := hr _ rfl
    replace H := R0
    try dsimp only at H
    cases H
    exact rt F ⟨rfl, sc.drop.drop.drop.drop⟩
   refine Ki F sc m2 1 rfl fun _ F => Ki F sc m0 0 rfl fun _ F => ?_
   refine Ae (parts := [(0, .tmp 44)]) Flat.str ([x3.Name] : List (List UInt8)) F sc Au2 rfl (by decide) rfl rfl rfl (by simp [Value.cells]) rfl rfl rfl fun v7 w8 _ F sd => ?_
   obtain ⟨x7, hx, H⟩ := Aa H
   obtain ⟨_, hr_⟩ := (sd.f4.Ac5 m1)
   refine Aw Flat.str F sd.f4 Au2 rfl rfl rfl rfl hr_ rfl rfl hx rfl fun v8 wa _ F se => ?_
   have s11752' := se.f1.drop
   have sf := s11752'.f3
   refine Ay F sf rfl rfl AA9 (Ag (fO sf m1)) (Aq (fO sf m1)) rfl fun wb _ F sg => ?_
   cases H
   exact gw 7 F rfl fun _ F => ⟨_, rfl, v8, F.sb, sg.f2.drop.f1.f1.f2⟩
  cases H
  obtain rfl := hr _ rfl
  exact ⟨_, rfl, v6, F.sb, s6.drop⟩
 intro _ wc hJ
 obtain ⟨p0, rfl, v5, F, sh⟩ := hJ
 have H := R0
 clear R0 H0
 try dsimp only at H
 refine ge 4 F rfl fun _ F => Ki F sh m0 0 rfl fun _ F => gx F (Ah rfl underlying218 (fO sh m1)) 3 rfl rfl fun _ F => Ll F H 7 8 rfl rfl rfl (fun hy H _ F => ?_) (fun hy H _ F => ?_)
 ·cases H
  exact rt F ⟨rfl, sh.drop.drop⟩
 cases H
 exact rt F ⟨rfl, sh.drop.drop⟩
theorem A0n {w : World} {v0 : Value} {a0 : List BV} {r : Int × Int} (hr0 : Rd Hw w [] v0 a0) (H : Aqh a0 = some r) :
    Calls prog 127 #[v0] w (Ret fun u_ w_ => u_ = .tuple ⟨[jI r.1, jI r.2]⟩ ∧ SL w [] w_ []) := by
 have s0 : SL w [] w [] := SL.Abr w
 refine cin func127 ntmps127 10 rfl rfl rfl fun _ F => ?_
 unfold Aqh at H
 obtain ⟨o0, H0, R0⟩ := Aa H
 clear H
 refine gx F (Ah rfl underlying22 (fR hr0 s0)) 3 rfl rfl fun _ F => Acs (fun a w_ => ∃ p0 : Unit, o0 = .inr (p0) ∧ Fr a 52 [] ∧ SL w [] w_ []) ?_ ?_
 ·have H := H0
  refine gc 1 F rfl fun _ F => lpk (Akc a0) (fun s1 a w_ => Fr a 52 [(0, v0), (7, v0), (8, jI (a0.length : Int)), (9, jI s1)] ∧ SL w [] w_ []) H ?_ ?_
  ·exact ⟨F.sb, s0⟩
  intro s1 _ w0 h0 o1 H hr
  obtain ⟨F, s2⟩ := h0
  replace H : Akc a0 s1 = some o1 := H
  unfold Akc at H
  refine gc 6 F rfl fun _ F => Ll F H 6 4 rfl rfl rfl (fun h1 H _ F => ?_) (fun h1 H _ F => ?_)
  ·obtain ⟨x0, h2, H⟩ := Aa H
   obtain ⟨a1, c0, G0, h3, h4, h5, h6⟩ := Rd.idx hr0 Af2 rfl h2
   obtain ⟨v1, rfl, h7⟩ := (Ael h5 h6)
   replace h4 := h4 _ _ s2
   refine gw 1 F rfl fun _ F => gi F h3 0 rfl fun _ F => gx F (Av Avm rfl h4 rfl) 0 rfl rfl fun _ F => Af F s2 Awt rfl rfl fun g0 w1 _ F s3 => gw 1 F rfl fun _ F => Ai F s3 rfl rfl Az5 (Ab rfl (Ab rfl (Ab (Aq (fR h7 s3)) Ap))) (Ac rfl) fun w2 _ F s4 => ?_
   obtain ⟨o2, H1, R1⟩ := Aa H
   clear H
   refine gw 8 F rfl fun _ F => Acs (fun a w_ => Fr a 52 [(0, v0), (4, jI s1), (6, jI o2), (7, v0), (8, jI (a0.length : Int)), (9, jI s1)] ∧ SL w [] w_ []) ?_ ?_
   ·have H := H1
    refine gc 8 F rfl fun _ F => Ll F H 4 1 rfl rfl rfl (fun h8 H _ F => ?_) (fun h8 H _ F => ?_)
    ·cases H
     exact ⟨F.sb, s4.drop⟩
    obtain ⟨x1, h9, H⟩ := Aa H
    refine Be (!x1) (fun ha => ?_) (fun ha => ?_)
    ·replace H := As3 ha H
     refine Ad4 Abj s4 ?_
     refine hq [0, 1] F s4.drew (QI.ev 1 rfl <| QI.ld m0 rfl <| QI.nil) (by kernel_rfl) fun _ F => ?_
     refine ho 2 rfl (by kernel_rfl) ?_
     refine gca F s4.drew (Avz h9) 1 rfl rfl rfl rfl fun w3 _ F s5 => ⟨s5, ?_⟩
     refine hq [3, 4, 5, 6, 7, 8, 9, 10] F s5 (QI.ev 2 rfl <| QI.kn (dj := 25) rfl ha <| QI.ev 6 rfl <| QI.nil) (by kernel_rfl) fun _ F => ?_
     refine Aew (by kernel_rfl) ?_
     cases H
     exact ge 6 F rfl fun _ F => ⟨F.sb, s5.drop⟩
    replace H := As4 ha H
    obtain ⟨x2, hb, H⟩ := Aa H
    obtain ⟨x3, hc, H⟩ := Aa H
    refine Ad4 Abj s4 ?_
    refine hq [0, 1] F s4.drew (QI.ev 1 rfl <| QI.ld m0 rfl <| QI.nil) (by kernel_rfl) fun _ F => ?_
    refine ho 2 rfl (by kernel_rfl) ?_
    refine gca F s4.drew (Avz h9) 1 rfl rfl rfl rfl fun w4 _ F s6 => ⟨s6, ?_⟩
    refine hq [3, 4, 6, 7] F s6 (QI.ev 2 rfl <| QI.kn (dj := 25) rfl ha <| QI.ev 1 rfl <| QI.gop rfl (fun _ hC => An Am7 rfl (hC.Ai8 m0 rfl)) rfl rfl rfl rfl rfl <| QI.nil) (by kernel_rfl) fun _ F => ?_
    refine ho 5 rfl (by kernel_rfl) ?_
    refine Lm F rfl rfl <| std F (A83 hb) fun v2 w5 _ hd F => ?_
    obtain ⟨_, rfl, he⟩ := hd
    have s7 := s6.add he
    refine gw 1 F rfl fun _ F => ⟨s7.drop, ?_⟩
    refine ho 8 rfl (by kernel_rfl) ?_
    refine Lm F rfl rfl <| gca F s7 (An3 (s7.rd0 m0) hc) 1 rfl rfl rfl rfl fun w6 _ F s8 => ⟨s8.drop, ?_⟩
    refine hq [9, 10] F s8.drop (QI.ev 2 rfl <| QI.nil) (by kernel_rfl) fun _ F => ?_
    refine Aew (by kernel_rfl) ?_
    refine ge 1 F rfl fun _ F => Ll F H 4 4 rfl rfl rfl (fun hf H _ F => ?_) (fun hf H _ F => ?_)
    ·cases H
     exact ⟨F.sb, s8.drop.drop⟩
    obtain ⟨x4, hg, H⟩ := Aa H
    obtain ⟨v3, hh, hi⟩ := Rd.cut hr0 Af2 rfl hg none (some s1) (.inr ⟨rfl, rfl⟩) (.inl rfl)
    obtain ⟨x5, hj, H⟩ := Aa H
    refine gx F (hh _ _ _ _ _ .i64 .i64 _ _ _ _ _ rfl trivial rfl) 0 rfl rfl fun _ F => gx F (Ajn (cs := [.tmp 5]) (vs := [jP g0]) rfl) 0 rfl rfl fun _ F => ?_
    obtain ⟨G1, hk, hl, hm, hn⟩ := SL.open_ (ps := [Cw g0 103 [.string ⟨⟨x0.Name⟩⟩, jI x0.Ace, v1]]) (rest := [Sl Ty.str v2 x2]) s8.f1
    refine std F (Amf (a200 := (⟨x0.Name, x0.Ace, x0.Fields⟩ : BV)) hk (hi.pass s8.f1 hl) (h7.pass s8.f1 hl) hj) fun v4 w7 _ hp F => ?_
    obtain ⟨rfl, hs⟩ := hp
    have s9 := hn _ _ hs
    refine gw 3 F rfl fun _ F => Ll F H 4 3 rfl rfl rfl (fun ht H _ F => ?_) (fun ht H _ F => ?_)
    ·cases H
     exact ⟨F.sb, s9.drop.drop⟩
    refine Ki F s9 m0 2 rfl fun _ F => bsp 41 F H (fun hu H F => ?_) (fun hu H F => ?_)
    ·cases H
     exact gw 13 F rfl fun _ F => ⟨F.sb, s9.drop.drop⟩
    refine gw 1 F rfl fun _ F => Lm F rfl rfl <| Ki F s9 m0 6 rfl fun _ F => Ll F H 4 3 rfl rfl rfl (fun hv H _ F => ?_) (fun hv H _ F => ?_)
    ·cases H
     exact ⟨F.sb, s9.drop.drop⟩
    obtain ⟨x6, hw, H⟩ := Aa H
    refine gca F s9 (A6y (hr0.M3 s9) hw) 3 rfl rfl rfl rfl fun w8 _ F sa => ?_
    cases H
    exact ⟨F.sb, sa.drop.drop⟩
   intro _ w9 hJ
   obtain ⟨F, sc⟩ := hJ
   have H := R1
   clear R1 H1
   refine ge 7 F rfl fun _ F => Ll F H 15 7 rfl rfl rfl (fun hx H _ F => ?_) (fun hx H _ F => ?_)
   ·cases H
    obtain rfl := hr _ rfl
    replace H := R0
    try dsimp only at H
    cases H
    exact rt F ⟨rfl, sc⟩
   cases H
   exact ⟨_, rfl, F.sb, sc⟩
  cases H
  obtain rfl := hr _ rfl
  exact ⟨_, rfl, F.sb, s2⟩
 intro _ wa hJ
 obtain ⟨p0, rfl, F, sd⟩ := hJ
 have H := R0
 clear R0 H0
 try dsimp only at H
 cases H
 exact ge 8 F rfl fun _ F => rt F ⟨rfl, sd⟩
theorem A67 {w : World} {v0 : Value} {a0 : List BV} {a1 : UInt8} {r : Bool} (hr0 : Rd Hw w [] v0 a0) (H : Ari a0 a1 = some r) :
    Calls prog 129 #[v0, jU (a1.toNat : Int)] w (Ret fun u_ w_ => u_ = .bool r ∧ SL w [] w_ []) := by
 have s0 : SL w [] w [] := SL.Abr w
 refine cin func129 ntmps129 9 rfl rfl rfl fun _ F => ?_
 unfold Ari at H
 obtain ⟨x0, h0, H⟩ := Aa H
 refine gca F s0 (Ak6 (hr0.M3 s0) h0) 1 rfl rfl rfl rfl fun w0 _ F s1 => bsp 8 F H (fun h1 H F => ?_) (fun h1 H F => ?_)
 ·refine gw 4 F rfl fun _ F => bsp 12 F H (fun h2 H F => ?_) (fun h2 H F => ?_)
  ·cases H
   exact gw 7 F rfl fun _ F => rt F ⟨rfl, s1⟩
  cases H
  exact gw 7 F rfl fun _ F => rt F ⟨rfl, s1⟩
 cases H
 exact gw 11 F rfl fun _ F => rt F ⟨rfl, s1⟩
theorem Ax7 {w : World} {FF : List Nat} {g1 : Nat} {v1_0 v1_1 : Value} {a0 : UInt8} {a1 : GG} {r : Bool} (hst : Acd [Cw g1 110 [v1_0, v1_1, jI a1.Fn]] w FF) (hr1_0 : Rd Hw w FF v1_0 a1.Classes) (hr1_1 : Rd Ach w FF v1_1 a1.OS) (H : An7 a0 a1 = some r) :
    Calls prog 128 #[jU (a0.toNat : Int), jP g1] w (Ret fun u_ w_ => u_ = .bool r ∧ SL w FF w_ [Cw g1 110 [v1_0, v1_1, jI a1.Fn]]) := by
 have s0 : SL w FF w [Cw g1 110 [v1_0, v1_1, jI a1.Fn]] := SL.init w FF hst
 refine cin func128 ntmps128 8 rfl rfl rfl fun _ F => ?_
 unfold An7 at H
 obtain ⟨x0, h0, H⟩ := Aa H
 refine Ki F s0 m0 1 rfl fun _ F => gca F s0 (A67 (hr1_0.M3 s0) h0) 5 rfl rfl rfl rfl fun w0 _ F s1 => ?_
 cases H
 exact rt F ⟨rfl, s1⟩
theorem Aof {w : World} {FF : List Nat} {g0 : Nat} {v0 v200_0 v200_1 : Value} {a0 : List UInt8} {a200 : GG} {r : Int} (hst : Acd [Cw g0 110 [v200_0, v200_1, jI a200.Fn]] w FF) (hr0 : Rd Ty.u8 w FF v0 a0) (hr200_0 : Rd Hw w FF v200_0 a200.Classes) (hr200_1 : Rd Ach w FF v200_1 a200.OS) (H : Afj a0 a200 = some r) :
    Calls prog 157 #[v0, clo 128 [jP g0]] w (Ret fun u_ w_ => u_ = jI r ∧ SL w FF w_ [Cw g0 110 [v200_0, v200_1, jI a200.Fn]]) := by
 have s0 : SL w FF w [Cw g0 110 [v200_0, v200_1, jI a200.Fn]] := SL.init w FF hst
 refine cin func157 ntmps157 9 rfl rfl rfl fun _ F => ?_
 unfold Afj at H
 obtain ⟨o0, H0, R0⟩ := Aa H
 clear H
 refine gx F (Ah rfl underlying47 (fR hr0 s0)) 3 rfl rfl fun _ F => Acs (fun a w_ => ∃ p0 : Unit, o0 = .inr (p0) ∧ Fr a 19 [] ∧ SL w FF w_ [Cw g0 110 [v200_0, v200_1, jI a200.Fn]]) ?_ ?_
 ·have H := H0
  refine gc 1 F rfl fun _ F => lpk (Adn a0 a200) (fun s1 a w_ => Fr a 19 [(0, v0), (1, clo 128 [jP g0]), (7, jI (a0.length : Int)), (8, jI s1)] ∧ SL w FF w_ [Cw g0 110 [v200_0, v200_1, jI a200.Fn]]) H ?_ ?_
  ·exact ⟨F.sb, s0⟩
  intro s1 _ w0 h0 o1 H hr
  obtain ⟨F, s2⟩ := h0
  replace H : Adn a0 a200 s1 = some o1 := H
  unfold Adn at H
  refine gc 6 F rfl fun _ F => Ll F H 15 4 rfl rfl rfl (fun h1 H _ F => ?_) (fun h1 H _ F => ?_)
  ·obtain ⟨x0, h2, H⟩ := Aa H
   obtain ⟨a2, h3, h4⟩ := Alr Flat.u8 (rdL hr0 s2) Abp rfl h2
   obtain ⟨x1, h5, H⟩ := Aa H
   refine gi F h3 0 rfl fun _ F => gx F (An Acy rfl (Abe.at_ h4 (o := 0) rfl)) 0 rfl rfl fun _ F => ?_
   obtain ⟨G0, h6, h7, h8, h9⟩ := SL.open_ (ps := [Cw g0 110 [v200_0, v200_1, jI a200.Fn]]) (rest := []) s2
   refine Aky (args := [.tmp 15]) F AAa rfl rfl (Ax7 (a0 := x0) (a1 := (⟨a200.Classes, a200.OS, a200.Fn⟩ : GG)) h6 (hr200_0.pass s2 h7) (hr200_1.pass s2 h7) h5) rfl fun v1 w1 _ ha F => ?_
   obtain ⟨rfl, hb⟩ := ha
   have s3 := h9 _ _ hb
   refine gw 2 F rfl fun _ F => Ll F H 13 7 rfl rfl rfl (fun hc H _ F => ?_) (fun hc H _ F => ?_)
   ·cases H
    obtain rfl := hr _ rfl
    replace H := R0
    try dsimp only at H
    cases H
    exact rt F ⟨rfl, s3⟩
   cases H
   exact ⟨_, rfl, F.sb, s3⟩
  cases H
  obtain rfl := hr _ rfl
  exact ⟨_, rfl, F.sb, s2⟩
 intro _ w2 hJ
 obtain ⟨p0, rfl, F, s4⟩ := hJ
 have H := R0
 clear R0 H0
 try dsimp only at H
 cases H
 exact ge 7 F rfl fun _ F => rt F ⟨rfl, s4⟩
theorem Anv {w : World} {FF : List Nat} {g0 : Nat} {v0 v200_0 v200_1 : Value} {a0 : List UInt8} {a200 : GG} {r : Bool} (hst : Acd [Cw g0 110 [v200_0, v200_1, jI a200.Fn]] w FF) (hr0 : Rd Ty.u8 w FF v0 a0) (hr200_0 : Rd Hw w FF v200_0 a200.Classes) (hr200_1 : Rd Ach w FF v200_1 a200.OS) (H : Ad6 a0 a200 = some r) :
    Calls prog 130 #[v0, clo 128 [jP g0]] w (Ret fun u_ w_ => u_ = .bool r ∧ SL w FF w_ [Cw g0 110 [v200_0, v200_1, jI a200.Fn]]) := by
 have s0 : SL w FF w [Cw g0 110 [v200_0, v200_1, jI a200.Fn]] := SL.init w FF hst
 refine cin func130 ntmps130 9 rfl rfl rfl fun _ F => ?_
 unfold Ad6 at H
 obtain ⟨x0, h0, H⟩ := Aa H
 obtain ⟨G0, h1, h2, h3, h4⟩ := SL.open_ (ps := [Cw g0 110 [v200_0, v200_1, jI a200.Fn]]) (rest := []) s0
 refine std F (Aof (a200 := (⟨a200.Classes, a200.OS, a200.Fn⟩ : GG)) h1 (hr0.pass s0 h2) (hr200_0.pass s0 h2) (hr200_1.pass s0 h2) h0) fun v1 w0 _ h5 F => ?_
 obtain ⟨rfl, h6⟩ := h5
 have s1 := h4 _ _ h6
 cases H
 exact gw 5 F rfl fun _ F => rt F ⟨rfl, s1⟩
theorem ACd {w : World} {v0_0 v0_1 : Value} {a0 : GG} {a1 : Int} {r : Int} (hr0_0 : Rd Hw w [] v0_0 a0.Classes) (hr0_1 : Rd Ach w [] v0_1 a0.OS) (H : Ato a0 a1 = some r) :
    Calls prog 103 #[.agg ⟨[v0_0, v0_1, jI a0.Fn]⟩, jI a1] w (Ret fun u_ w_ => u_ = jI r ∧ SL w [] w_ []) := by
 have s0 : SL w [] w [] := SL.Abr w
 refine cin func103 ntmps103 2 rfl rfl rfl fun _ F0 => ?_
 unfold Ato at H
 refine Ar F0 s0 rfl rfl rfl fun g8 w9 _ F s1 => ?_
 obtain ⟨x0, h0, H⟩ := Aa H
 refine gw 7 F rfl fun _ F => Ki F s1 m0 0 rfl fun _ F => gca F s1 (A0n (hr0_0.M3 s1) h0) 13 rfl rfl rfl rfl fun w0 _ F s2 => Ll F H 8 6 rfl rfl rfl (fun h1 H _ F => ?_) (fun h1 H _ F => ?_)
 ·cases H
  exact rt F ⟨rfl, s2.drop⟩
 refine Ki F s2 m0 0 rfl fun _ F => gx F (Ah rfl underlying108 (fR hr0_1 s2)) 3 rfl rfl fun _ F => Ll F H 7 6 rfl rfl rfl (fun h2 H _ F => ?_) (fun h2 H _ F => ?_)
 ·cases H
  exact rt F ⟨rfl, s2.drop⟩
 refine Ki F s2 m0 0 rfl fun _ F => ?_
 obtain ⟨o0, H0, R0⟩ := Aa H
 clear H
 refine gx F (Ah rfl underlying108 (fR hr0_1 s2)) 3 rfl rfl fun _ F => Acs (fun a w_ => ∃ p0 : Unit, o0 = .inr (p0) ∧ Fr a 79 [(1, jI a1), (2, jP g8)] ∧ SL w [] w_ [Cw g8 110 [v0_0, v0_1, jI a0.Fn]]) ?_ ?_
 ·have H := H0
  refine gc 1 F rfl fun _ F => lpk (Ao6 a0) (fun s3 a w_ => Fr a 79 [(1, jI a1), (2, jP g8), (26, v0_1), (27, jI (a0.OS.length : Int)), (28, jI s3)] ∧ SL w [] w_ [Cw g8 110 [v0_0, v0_1, jI a0.Fn]]) H ?_ ?_
  ·exact ⟨F.sb, s2⟩
  intro s3 _ w1 h3 o1 H hr
  obtain ⟨F, s4⟩ := h3
  replace H : Ao6 a0 s3 = some o1 := H
  unfold Ao6 at H
  refine gc 6 F rfl fun _ F => Ll F H 6 4 rfl rfl rfl (fun h4 H _ F => ?_) (fun h4 H _ F => ?_)
  ·obtain ⟨x1, h5, H⟩ := Aa H
   obtain ⟨a2, c0, G0, h6, h7, h8, h9⟩ := Rd.idx hr0_1 Ahb rfl h5
   obtain ⟨v0, rfl, ha⟩ := (Ajk h8 h9)
   replace h7 := h7 _ _ s4
   refine gi F h6 0 rfl fun _ F => gx F (Av Aot rfl h7 rfl) 0 rfl rfl fun _ F => Af F s4 Ars rfl rfl fun g0 w2 _ F s5 => Ai F s5 rfl rfl Awz (Ab (Aq (fR ha s5)) (Ab rfl Ap)) (Ac rfl) fun w3 _ F s6 => gw 6 F rfl fun _ F => Ki F s6 m0 0 rfl fun _ F => gx F (Ah rfl underlying47 (fR ha s6)) 3 rfl rfl fun _ F => Ll F H 13 4 rfl rfl rfl (fun hb H _ F => ?_) (fun hb H _ F => ?_)
   ·cases H
    obtain rfl := hr _ rfl
    replace H := R0
    try dsimp only at H
    cases H
    exact rt F ⟨rfl, s6.drop.drop⟩
   obtain ⟨x2, hc, H⟩ := Aa H
   refine gx F (Ajn (cs := [.tmp 2]) (vs := [jP g8]) rfl) 6 rfl rfl fun _ F => ?_
   obtain ⟨G1, hd, he, hf, hg⟩ := SL.open_ (ps := [Cw g8 110 [v0_0, v0_1, jI a0.Fn]]) (rest := [Cw g0 50 [v0, jU (x1.Result.toNat : Int)]]) s6.f1
   refine Ki F s6 m0 1 rfl fun _ F => std F (Anv (a200 := (⟨a0.Classes, a0.OS, a0.Fn⟩ : GG)) hd (ha.pass s6.f1 he) (hr0_0.pass s6.f1 he) (hr0_1.pass s6.f1 he) hc) fun v1 w4 _ hh F => ?_
   obtain ⟨rfl, hi⟩ := hh
   have s7 := hg _ _ hi
   refine gw 1 F rfl fun _ F => bsp 41 F H (fun hj H F => ?_) (fun hj H F => ?_)
   ·cases H
    obtain rfl := hr _ rfl
    replace H := R0
    try dsimp only at H
    cases H
    exact gw 25 F rfl fun _ F => rt F ⟨rfl, s7.drop.drop⟩
   refine gw 1 F rfl fun _ F => Lm F rfl rfl <| Ki F s7 m1 2 rfl fun _ F => bsp 45 F H (fun hk H F => ?_) (fun hk H F => ?_)
   ·refine gw 2 F rfl fun _ F => Lm F rfl rfl <| Ki F s7 m1 0 rfl fun _ F => ?_
    obtain ⟨x3, hl, H⟩ := Aa H
    refine Lm F rfl rfl ?_
    obtain ⟨G2, hm, hn, hp, hs⟩ := SL.open_ (ps := [Cw g8 110 [v0_0, v0_1, jI a0.Fn]]) (rest := [Cw g0 50 [v0, jU (x1.Result.toNat : Int)]]) s7
    refine Aky (args := [.tmp 48]) F AAa rfl rfl (Ax7 (a0 := x1.Result) (a1 := (⟨a0.Classes, a0.OS, a0.Fn⟩ : GG)) hm (hr0_0.pass s7 hn) (hr0_1.pass s7 hn) hl) rfl fun v2 w5 _ ht F => ?_
    obtain ⟨rfl, hu⟩ := ht
    have s8 := hs _ _ hu
    refine gw 4 F rfl fun _ F => Ll F H 12 7 rfl rfl rfl (fun hv H _ F => ?_) (fun hv H _ F => ?_)
    ·cases H
     obtain rfl := hr _ rfl
     replace H := R0
     try dsimp only at H
     cases H
     exact rt F ⟨rfl, s8.drop.drop⟩
    cases H
    exact ⟨_, rfl, F.sb, s8.f1.drop⟩
   cases H
   exact gw 16 F rfl fun _ F => ⟨_, rfl, F.sb, s7.f1.drop⟩
  cases H
  obtain rfl := hr _ rfl
  exact ⟨_, rfl, F.sb, s4⟩
 intro _ w6 hJ
 obtain ⟨p0, rfl, F, s9⟩ := hJ
 have H := R0
 clear R0 H0
 try dsimp only at H
 refine ge 5 F rfl fun _ F => Ki F s9 m0 2 rfl fun _ F => bsp 56 F H (fun hw H F => ?_) (fun hw H F => ?_)
 ·cases H
  exact gw 17 F rfl fun _ F => rt F ⟨rfl, s9.drop⟩
 refine gw 1 F rfl fun _ F => Lm F rfl rfl <| Ki F s9 m0 1 rfl fun _ F => Lm F rfl rfl <| Ki F s9 m0 0 rfl fun _ F => Lm F rfl rfl <| gx F (Ah rfl underlying108 (fR hr0_1 s9)) 4 rfl rfl fun _ F => Ll F H 7 3 rfl rfl rfl (fun hx H _ F => ?_) (fun hx H _ F => ?_)
 ·cases H
  exact rt F ⟨rfl, s9.drop⟩
 obtain ⟨x4, hy, H⟩ := Aa H
 obtain ⟨x5, hz, H⟩ := Aa H
 refine Ad4 Abj s9 ?_
 have sa := s9.drew
 obtain ⟨a3, c1, G3, h10, h11, h12, h13⟩ := Rd.idx hr0_1 Ahb rfl hy
 obtain ⟨v3, rfl, h14⟩ := (Ajk h12 h13)
 have hc6746_ := h11; clear h11; have h11 := fun w_ (hC : SL w [] w_ [Cw g8 110 [v0_0, v0_1, jI a0.Fn]]) => hc6746_ _ _ hC
 refine hq [0, 1, 2, 3, 4, 5, 6, 7, 8, 9] F sa (QI.ev 1 rfl <| QI.ld m0 rfl <| QI.ev 1 rfl <| QI.ld m0 rfl <| QI.ev 1 rfl <| QI.ld m0 rfl <| QI.ix h10 rfl <| QI.op rfl (fun _ hC => Ba Atk rfl) rfl <| QI.op rfl (fun _ hC => An As9 rfl (Abe.at_ (h11 _ hC) (o := 0) rfl)) rfl <| QI.ev 1 rfl <| QI.nil) (by kernel_rfl) fun _ F => ?_
 refine Aes [0, 1, 2, 3, 4, 5, 6, 7, 8, 9, 10, 11, 12, 13, 14, 15] (fun a w_ => ∃ g1 : Nat, Fr a 79 [(77, jI x5.2)] ∧ SL w [] w_ [Cw g8 110 [v0_0, v0_1, jI a0.Fn], Cw g1 118 (jI x5.1.Locals :: jI x5.1.Height :: XK x5.1.Slots)]) ?_ fun hD0 => ?_
 ·rintro a w_ ⟨g1, F, sc⟩
  refine hq [16] F sc.f1.drop (QI.ev 1 rfl <| QI.nil) (by kernel_rfl) fun _ F => ?_
  refine Aew (by kernel_rfl) ?_
  cases H
  exact ge 8 F rfl fun _ F => rt F ⟨rfl, sc.drop.drop⟩
 refine ho2 10 14 rfl rfl (by kernel_rfl) ?_ ?_
 ·refine gca F sa (Ar8 (hr0_0.M3 sa) (h14.M3 sa) hz) 1 rfl rfl rfl rfl fun w7 _ F sd => ⟨sd, ?_⟩
  refine hq [11, 12, 13] F sd (QI.ev 3 rfl <| QI.nil) (by kernel_rfl) fun _ F => ?_
  refine ho 14 rfl (by kernel_rfl) ?_
  refine Af F sd Ol rfl rfl fun g1 w8 _ F se => gw 1 F rfl fun _ F => ⟨se.drop, ?_⟩
  refine ho 15 rfl (by kernel_rfl) ?_
  refine O4 (ds := (jI x5.1.Locals :: jI x5.1.Height :: XK x5.1.Slots)) F se rfl rfl (by simpa using Aay) (Ab rfl (Ab rfl (Abi _))) (by simp) fun wa _ F sf => ?_
  exact gw 1 F rfl fun _ F => ⟨sf.drop, hto hD0 ⟨g1, F.sb, sf.f1⟩ (by kernel_rfl)⟩
 refine Af F sa Ol rfl rfl fun g1 w8 _ F se => gw 1 F rfl fun _ F => ⟨se.drop, ?_⟩
 refine ho 10 rfl (by kernel_rfl) ?_
 refine gca F se (Ar8 (hr0_0.M3 se) (h14.M3 se) hz) 1 rfl rfl rfl rfl fun w7 _ F sd => ⟨sd.drop, ?_⟩
 refine hq [11, 12, 13] F sd.drop (QI.ev 3 rfl <| QI.nil) (by kernel_rfl) fun _ F => ?_
 refine ho 15 rfl (by kernel_rfl) ?_
 refine O4 (ds := (jI x5.1.Locals :: jI x5.1.Height :: XK x5.1.Slots)) F sd rfl rfl (by simpa using Aay) (Ab rfl (Ab rfl (Abi _))) (by simp) fun wa _ F sf => ?_
 exact gw 1 F rfl fun _ F => ⟨sf.drop, hto hD0 ⟨g1, F.sb, sf.f1⟩ (by kernel_rfl)⟩
theorem A0p {w : World} {a0 : UInt8} {r : Int × Int} (H : Aqj a0 = some r) :
    Calls prog 76 #[jU (a0.toNat : Int)] w (Ret fun u_ w_ => u_ = .tuple ⟨[jI r.1, jI r.2]⟩ ∧ SL w [] w_ []) := by
 have s0 : SL w [] w [] := SL.Abr w
 refine cin func76 ntmps76 30 rfl rfl rfl fun _ F => ?_
 unfold Aqj at H
 refine Ll F H 23 4 rfl rfl rfl (fun h0 H _ F => ?_) (fun h0 H _ F => ?_)
 ·cases H
  exact rt F ⟨rfl, s0⟩
 obtain ⟨o0, H0, R0⟩ := Aa H
 clear H
 refine Acs (fun a w_ => Fr a 23 [(4, jU (a0.toNat : Int)), (7, .bool o0)] ∧ SL w [] w_ []) ?_ ?_
 ·have H := H0
  refine gc 6 F rfl fun _ F => Ll F H 1 4 rfl rfl rfl (fun h1 H _ F => ?_) (fun h1 H _ F => ?_)
  ·cases H
   exact ⟨F.sb, s0⟩
  cases H
  exact ⟨F.sb, s0⟩
 intro _ w0 hJ
 obtain ⟨F, s1⟩ := hJ
 have H := R0
 clear R0 H0
 refine ge 1 F rfl fun _ F => Ll F H 23 4 rfl rfl rfl (fun h2 H _ F => ?_) (fun h2 H _ F => ?_)
 ·cases H
  exact rt F ⟨rfl, s1⟩
 obtain ⟨o1, H1, R1⟩ := Aa H
 clear H
 refine Acs (fun a w_ => Fr a 23 [(4, jU (a0.toNat : Int)), (10, .bool o1)] ∧ SL w [] w_ []) ?_ ?_
 ·have H := H1
  refine gc 6 F rfl fun _ F => Ll F H 1 4 rfl rfl rfl (fun h3 H _ F => ?_) (fun h3 H _ F => ?_)
  ·cases H
   exact ⟨F.sb, s1⟩
  cases H
  exact ⟨F.sb, s1⟩
 intro _ w1 hJ
 obtain ⟨F, s2⟩ := hJ
 have H := R1
 clear R1 H1
 refine ge 1 F rfl fun _ F => Ll F H 23 4 rfl rfl rfl (fun h4 H _ F => ?_) (fun h4 H _ F => ?_)
 ·cases H
  exact rt F ⟨rfl, s2⟩
 obtain ⟨o2, H2, R2⟩ := Aa H
 clear H
 refine Acs (fun a w_ => Fr a 23 [(4, jU (a0.toNat : Int)), (13, .bool o2)] ∧ SL w [] w_ []) ?_ ?_
 ·have H := H2
  refine gc 6 F rfl fun _ F => Ll F H 1 6 rfl rfl rfl (fun h5 H _ F => ?_) (fun h5 H _ F => ?_)
  ·cases H
   exact ⟨F.sb, s2⟩
  refine Ll F H 1 4 rfl rfl rfl (fun h6 H _ F => ?_) (fun h6 H _ F => ?_)
  ·cases H
   exact ⟨F.sb, s2⟩
  cases H
  exact ⟨F.sb, s2⟩
 intro _ w2 hJ
 obtain ⟨F, s3⟩ := hJ
 have H := R2
 clear R2 H2
 refine ge 1 F rfl fun _ F => Ll F H 23 3 rfl rfl rfl (fun h7 H _ F => ?_) (fun h7 H _ F => ?_)
 ·cases H
  exact rt F ⟨rfl, s3⟩
 obtain ⟨o3, H3, R3⟩ := Aa H
 clear H
 refine Acs (fun a w_ => Fr a 23 [(17, .bool o3)] ∧ SL w [] w_ []) ?_ ?_
 ·have H := H3
  refine gc 6 F rfl fun _ F => Ll F H 1 6 rfl rfl rfl (fun h8 H _ F => ?_) (fun h8 H _ F => ?_)
  ·cases H
   exact ⟨F.sb, s3⟩
  refine Ll F H 1 6 rfl rfl rfl (fun h9 H _ F => ?_) (fun h9 H _ F => ?_)
  ·cases H
   exact ⟨F.sb, s3⟩
  refine Ll F H 1 6 rfl rfl rfl (fun ha H _ F => ?_) (fun ha H _ F => ?_)
  ·cases H
   exact ⟨F.sb, s3⟩
  refine Ll F H 1 4 rfl rfl rfl (fun hb H _ F => ?_) (fun hb H _ F => ?_)
  ·cases H
   exact ⟨F.sb, s3⟩
  cases H
  exact ⟨F.sb, s3⟩
 intro _ w3 hJ
 obtain ⟨F, s4⟩ := hJ
 have H := R3
 clear R3 H3
 refine ge 1 F rfl fun _ F => Ll F H 22 21 rfl rfl rfl (fun hc H _ F => ?_) (fun hc H _ F => ?_)
 ·cases H
  exact rt F ⟨rfl, s4⟩
 cases H
 exact rt F ⟨rfl, s4⟩
theorem Aos {w : World} {a0 : UInt8} {r : Int} (H : Alw a0 = some r) :
    Calls prog 74 #[jU (a0.toNat : Int)] w (Ret fun u_ w_ => u_ = jI r ∧ SL w [] w_ []) := by
 have s0 : SL w [] w [] := SL.Abr w
 refine cin func74 ntmps74 12 rfl rfl rfl fun _ F => ?_
 unfold Alw at H
 refine Ll F H 7 5 rfl rfl rfl (fun h0 H _ F => ?_) (fun h0 H _ F => ?_)
 ·cases H
  exact rt F ⟨rfl, s0⟩
 obtain ⟨x0, h1, H⟩ := Aa H
 refine gca F s0 (A0p h1) 17 rfl rfl rfl rfl fun w0 _ F s1 => ?_
 cases H
 exact rt F ⟨rfl, s1⟩
theorem Ay9 {w : World} {FF : List Nat} {g0 g0_4 g0_5 g0_6 : Nat} {v0_0 v0_1 v0_3 : Value} {a0 : Aae} {a1 : CO} {r : Bool × Aae} (hst : Acd [Cw g0 154 [v0_0, v0_1, jI a0.e.Fn, v0_3, .map (some g0_4), .map (some g0_5), .map (some g0_6), jI a0.Ade], Mp (Value.int .i64) (fun x : B0 => Value.agg ⟨(jI x.Locals :: jI x.Height :: XK x.Slots)⟩) g0_4 a0.frames, Mp (Value.int .i64) (fun _ : Unit => Value.agg ⟨[]⟩) g0_5 a0.fresh, Mp (Value.int .i64) (Value.int .i64) g0_6 a0.taken] w FF) (hr0_0 : Rd Hw w FF v0_0 a0.e.Classes) (hr0_1 : Rd Ach w FF v0_1 a0.e.OS) (hr0_3 : Rd Ty.u8 w FF v0_3 a0.code) (H : Ald a0 a1 = some r) :
    Calls prog 133 #[jP g0, .agg ⟨[jI a1.At, jU (a1.Op.toNat : Int), jI a1.A, jI a1.B]⟩] w (Ret fun u_ w_ => ∃ u0 u1 u2 : Value, u_ = .bool r.1 ∧ Adc Hw v0_0 a0.e.Classes u0 r.2.e.Classes ∧ Adc Ach v0_1 a0.e.OS u1 r.2.e.OS ∧ Adc Ty.u8 v0_3 a0.code u2 r.2.code ∧ SL w FF w_ [Cw g0 154 [u0, u1, jI r.2.e.Fn, u2, .map (some g0_4), .map (some g0_5), .map (some g0_6), jI r.2.Ade], Mp (Value.int .i64) (fun x : B0 => Value.agg ⟨(jI x.Locals :: jI x.Height :: XK x.Slots)⟩) g0_4 r.2.frames, Mp (Value.int .i64) (fun _ : Unit => Value.agg ⟨[]⟩) g0_5 r.2.fresh, Mp (Value.int .i64) (Value.int .i64) g0_6 r.2.taken]) := by
 have s0 : SL w FF w [Cw g0 154 [v0_0, v0_1, jI a0.e.Fn, v0_3, .map (some g0_4), .map (some g0_5), .map (some g0_6), jI a0.Ade], Mp (Value.int .i64) (fun x : B0 => Value.agg ⟨(jI x.Locals :: jI x.Height :: XK x.Slots)⟩) g0_4 a0.frames, Mp (Value.int .i64) (fun _ : Unit => Value.agg ⟨[]⟩) g0_5 a0.fresh, Mp (Value.int .i64) (Value.int .i64) g0_6 a0.taken] := SL.init w FF hst
 refine cin func133 ntmps133 2 rfl rfl rfl fun _ F0 => ?_
 unfold Ald at H
 refine Ar F0 s0 rfl rfl rfl fun g8 w9 _ F s1 => gw 7 F rfl fun _ F => ?_
 obtain ⟨o0, H0, R0⟩ := Aa H
 clear H
 refine Ki F s1 m0 3 rfl fun _ F => Acs (fun a w_ => ∃ p0 : (List (Int × Int)), o0 = .inr (p0) ∧ Fr a 43 [] ∧ SL w FF w_ [Cw g0 154 [v0_0, v0_1, jI a0.e.Fn, v0_3, .map (some g0_4), .map (some g0_5), .map (some g0_6), jI a0.Ade], Mp (Value.int .i64) (fun x : B0 => Value.agg ⟨(jI x.Locals :: jI x.Height :: XK x.Slots)⟩) g0_4 a0.frames, Mp (Value.int .i64) (fun _ : Unit => Value.agg ⟨[]⟩) g0_5 a0.fresh, Mp (Value.int .i64) (Value.int .i64) g0_6 p0]) ?_ ?_
 ·have H := H0
  refine gc 1 F rfl fun _ F => lpk (Aeu a0 a1) (fun s2 a w_ => Fr a 43 [(0, jP g0), (3, jP g8), (5, jI s2.2)] ∧ SL w FF w_ [Cw g8 79 [jI a1.At, jU (a1.Op.toNat : Int), jI a1.A, jI a1.B], Cw g0 154 [v0_0, v0_1, jI a0.e.Fn, v0_3, .map (some g0_4), .map (some g0_5), .map (some g0_6), jI a0.Ade], Mp (Value.int .i64) (fun x : B0 => Value.agg ⟨(jI x.Locals :: jI x.Height :: XK x.Slots)⟩) g0_4 a0.frames, Mp (Value.int .i64) (fun _ : Unit => Value.agg ⟨[]⟩) g0_5 a0.fresh, Mp (Value.int .i64) (Value.int .i64) g0_6 s2.1]) H ?_ ?_
  ·exact ⟨F.sb, s1⟩
  intro s2 _ w0 h0 o1 H hr
  obtain ⟨F, s3⟩ := h0
  replace H : Aeu a0 a1 s2 = some o1 := H
  unfold Aeu at H
  obtain ⟨x0, h1, H⟩ := Aa H
  refine gc 2 F rfl fun _ F => Alj Abj s3 F (QR.ev 2 rfl <| QR.ld m0 rfl <| QR.ev 1 rfl <| QR.ld m0 rfl <| QR.call (args := [.tmp 14]) AK3 rfl (fun _ hC => Bf (Aos (a0 := a1.Op) h1) hC) <| QR.ev 2 rfl <| Bb) fun w1 _ s4 F => ge 1 F rfl fun _ F => Ll F H 10 4 rfl rfl rfl (fun h2 H _ F => ?_) (fun h2 H _ F => ?_)
  ·refine Ki F s4 m1 1 rfl fun _ F => gx F (A6q (k := s2.2) (z0 := (0 : Int)) s4 m4 underlying152 Ak2 AM0 rfl rfl) 11 rfl rfl fun _ F => bsp 30 F H (fun h3 H F => ?_) (fun h3 H F => ?_)
   ·refine gw 2 F rfl fun _ F => Lm F rfl rfl <| Ki F s4 m0 4 rfl fun _ F => Ll F H 13 2 rfl rfl rfl (fun h4 H _ F => ?_) (fun h4 H _ F => ?_)
    ·cases H
     obtain rfl := hr _ rfl
     replace H := R0
     try dsimp only at H
     cases H
     exact rt F ⟨v0_0, v0_1, v0_3, rfl, Adc.refl, Adc.refl, Adc.refl, s4.drop⟩
    refine Ad4 Abj s4.f4.drop ?_
    refine hq [0, 1, 2, 3, 4, 5, 6] F s4.drew.f4.drop (QI.ev 3 rfl <| QI.ld m1 rfl <| QI.ev 2 rfl <| QI.ld m0 rfl <| QI.nil) (by kernel_rfl) fun _ F => ?_
    refine ho 7 rfl (by kernel_rfl) ?_
    refine Aoj (k := s2.2) (u := a1.At) F s4.drew.f4 underlying152 Ak2 rfl rfl rfl fun w2 _ F s5 => gw 1 F rfl fun _ F => ⟨s5.drop, ?_⟩
    refine Aew (by kernel_rfl) ?_
    cases H
    exact ge 7 F rfl fun _ F => ⟨_, rfl, F.sb, s5.f4.f4.f4.f4⟩
   refine gw 10 F rfl fun _ F => Ad4 Abj s4.f4.drop ?_
   refine hq [0, 1, 2, 3, 4, 5, 6] F s4.drew.f4.drop (QI.ev 3 rfl <| QI.ld m1 rfl <| QI.ev 2 rfl <| QI.ld m0 rfl <| QI.nil) (by kernel_rfl) fun _ F => ?_
   refine ho 7 rfl (by kernel_rfl) ?_
   refine Aoj (k := s2.2) (u := a1.At) F s4.drew.f4 underlying152 Ak2 rfl rfl rfl fun w3 _ F s6 => gw 1 F rfl fun _ F => ⟨s6.drop, ?_⟩
   refine Aew (by kernel_rfl) ?_
   cases H
   exact ge 7 F rfl fun _ F => ⟨_, rfl, F.sb, s6.f4.f4.f4.f4⟩
  cases H
  obtain rfl := hr _ rfl
  exact ⟨_, rfl, F.sb, s4.drop⟩
 intro _ w4 hJ
 obtain ⟨p0, rfl, F, s7⟩ := hJ
 have H := R0
 clear R0 H0
 try dsimp only at H
 cases H
 exact ge 7 F rfl fun _ F => rt F ⟨v0_0, v0_1, v0_3, rfl, Adc.refl, Adc.refl, Adc.refl, s7⟩
theorem Asq {w : World} {FF : List Nat} {g1 : Nat} {v1_0 v1_1 : Value} {a0 : UInt8} {a1 : GG} {r : Bool} (hst : Acd [Cw g1 110 [v1_0, v1_1, jI a1.Fn]] w FF) (hr1_0 : Rd Hw w FF v1_0 a1.Classes) (hr1_1 : Rd Ach w FF v1_1 a1.OS) (H : Aja a0 a1 = some r) :
    Calls prog 182 #[jU (a0.toNat : Int), jP g1] w (Ret fun u_ w_ => u_ = .bool r ∧ SL w FF w_ [Cw g1 110 [v1_0, v1_1, jI a1.Fn]]) := by
 have s0 : SL w FF w [Cw g1 110 [v1_0, v1_1, jI a1.Fn]] := SL.init w FF hst
 refine cin func182 ntmps182 8 rfl rfl rfl fun _ F => ?_
 unfold Aja at H
 obtain ⟨x0, h0, H⟩ := Aa H
 refine Ki F s0 m0 1 rfl fun _ F => gca F s0 (Ak6 (hr1_0.M3 s0) h0) 1 rfl rfl rfl rfl fun w0 _ F s1 => bsp 8 F H (fun h1 H F => ?_) (fun h1 H F => ?_)
 ·refine gw 4 F rfl fun _ F => bsp 12 F H (fun h2 H F => ?_) (fun h2 H F => ?_)
  ·cases H
   exact gw 7 F rfl fun _ F => rt F ⟨rfl, s1⟩
  cases H
  exact gw 7 F rfl fun _ F => rt F ⟨rfl, s1⟩
 cases H
 exact gw 11 F rfl fun _ F => rt F ⟨rfl, s1⟩
theorem A2s {w : World} {v0_0 v0_1 : Value} {a0 : GG} {r : Bool} (hr0_0 : Rd Hw w [] v0_0 a0.Classes) (hr0_1 : Rd Ach w [] v0_1 a0.OS) (H : Ang a0 = some r) :
    Calls prog 159 #[.agg ⟨[v0_0, v0_1, jI a0.Fn]⟩] w (Ret fun u_ w_ => u_ = .bool r ∧ SL w [] w_ []) := by
 have s0 : SL w [] w [] := SL.Abr w
 refine cin func159 ntmps159 2 rfl rfl rfl fun _ F0 => ?_
 unfold Ang at H
 refine Ar F0 s0 rfl rfl rfl fun g8 w9 _ F s1 => ?_
 obtain ⟨x0, h0, H⟩ := Aa H
 refine gw 6 F rfl fun _ F => Ki F s1 m0 0 rfl fun _ F => gca F s1 (A0n (hr0_0.M3 s1) h0) 13 rfl rfl rfl rfl fun w0 _ F s2 => bsp 18 F H (fun h1 H F => ?_) (fun h1 H F => ?_)
 ·cases H
  exact gw 28 F rfl fun _ F => rt F ⟨rfl, s2.drop⟩
 refine gw 1 F rfl fun _ F => Lm F rfl rfl <| Ki F s2 m0 0 rfl fun _ F => Lm F rfl rfl <| gx F (Ah rfl underlying108 (fR hr0_1 s2)) 3 rfl rfl fun _ F => bsp 24 F H (fun h2 H F => ?_) (fun h2 H F => ?_)
 ·cases H
  exact gw 22 F rfl fun _ F => rt F ⟨rfl, s2.drop⟩
 refine gw 1 F rfl fun _ F => Lm F rfl rfl <| Ki F s2 m0 3 rfl fun _ F => bsp 29 F H (fun h3 H F => ?_) (fun h3 H F => ?_)
 ·cases H
  exact gw 17 F rfl fun _ F => rt F ⟨rfl, s2.drop⟩
 refine gw 1 F rfl fun _ F => Lm F rfl rfl <| Ki F s2 m0 1 rfl fun _ F => Lm F rfl rfl <| Ki F s2 m0 0 rfl fun _ F => Lm F rfl rfl <| gx F (Ah rfl underlying108 (fR hr0_1 s2)) 4 rfl rfl fun _ F => Ll F H 7 4 rfl rfl rfl (fun h4 H _ F => ?_) (fun h4 H _ F => ?_)
 ·cases H
  exact rt F ⟨rfl, s2.drop⟩
 refine gx F (Ajn (cs := [.tmp 1]) (vs := [jP g8]) rfl) 7 rfl rfl fun _ F => Ki F s2 m0 0 rfl fun _ F => ?_
 obtain ⟨o0, H0, R0⟩ := Aa H
 clear H
 refine gx F (Ah rfl underlying108 (fR hr0_1 s2)) 3 rfl rfl fun _ F => Acs (fun a w_ => ∃ p0 : Unit, o0 = .inr (p0) ∧ Fr a 74 [] ∧ SL w [] w_ []) ?_ ?_
 ·have H := H0
  refine gc 1 F rfl fun _ F => lpk (Ajq a0) (fun s3 a w_ => Fr a 74 [(5, clo 182 [jP g8]), (39, v0_1), (40, jI (a0.OS.length : Int)), (41, jI s3)] ∧ SL w [] w_ [Cw g8 110 [v0_0, v0_1, jI a0.Fn]]) H ?_ ?_
  ·exact ⟨F.sb, s2⟩
  intro s3 _ w1 h5 o1 H hr
  obtain ⟨F, s4⟩ := h5
  replace H : Ajq a0 s3 = some o1 := H
  unfold Ajq at H
  refine gc 6 F rfl fun _ F => Ll F H 6 4 rfl rfl rfl (fun h6 H _ F => ?_) (fun h6 H _ F => ?_)
  ·obtain ⟨x1, h7, H⟩ := Aa H
   obtain ⟨a2, c0, G0, h8, h9, ha, hb⟩ := Rd.idx hr0_1 Ahb rfl h7
   obtain ⟨v0, rfl, hc⟩ := (Ajk ha hb)
   replace h9 := h9 _ _ s4
   refine gi F h8 0 rfl fun _ F => gx F (Av Aot rfl h9 rfl) 0 rfl rfl fun _ F => Af F s4 Ars rfl rfl fun g0 w2 _ F s5 => Ai F s5 rfl rfl Awz (Ab (Aq (fR hc s5)) (Ab rfl Ap)) (Ac rfl) fun w3 _ F s6 => ?_
   obtain ⟨o2, H1, R1⟩ := Aa H
   clear H
   refine gw 3 F rfl fun _ F => Acs (fun a w_ => ∃ p1 : Bool × Bool, o2 = .inr (p1) ∧ Fr a 74 [(5, clo 182 [jP g8]), (7, jP g0), (39, v0_1), (40, jI (a0.OS.length : Int)), (41, jI s3), (50, .pointer (some ⟨g0, 1, none⟩)), (51, jU (x1.Result.toNat : Int)), (52, .bool ((x1.Result.toNat : Int) != 0)), (53, .bool p1.1), (59, .bool p1.2)] ∧ SL w [] w_ [Cw g8 110 [v0_0, v0_1, jI a0.Fn], Cw g0 50 [v0, jU (x1.Result.toNat : Int)]]) ?_ ?_
   ·have H := H1
    refine gc 3 F rfl fun _ F => Ki F s6 m0 0 rfl fun _ F => gx F (Ah rfl underlying47 (fR hc s6)) 2 rfl rfl fun _ F => bsp 49 F H (fun hd H F => ?_) (fun hd H F => ?_)
    ·cases H
     replace H := R1
     try dsimp only at H
     cases H
     obtain rfl := hr _ rfl
     replace H := R0
     try dsimp only at H
     cases H
     exact gw 28 F rfl fun _ F => rt F ⟨rfl, s6.drop.drop⟩
    refine gw 1 F rfl fun _ F => Lm F rfl rfl <| Ki F s6 m0 2 rfl fun _ F => bsp 53 F H (fun he H F => ?_) (fun he H F => ?_)
    ·refine gw 2 F rfl fun _ F => Lm F rfl rfl <| Ki F s6 m0 0 rfl fun _ F => ?_
     obtain ⟨x2, hf, H⟩ := Aa H
     refine Lm F rfl rfl ?_
     obtain ⟨G1, hg, hh, hi, hj⟩ := SL.open_ (ps := [Cw g8 110 [v0_0, v0_1, jI a0.Fn]]) (rest := [Cw g0 50 [v0, jU (x1.Result.toNat : Int)]]) s6.f1
     refine Aky (args := [.tmp 56]) F ABg rfl rfl (Asq (a0 := x1.Result) (a1 := (⟨a0.Classes, a0.OS, a0.Fn⟩ : GG)) hg (hr0_0.pass s6.f1 hh) (hr0_1.pass s6.f1 hh) hf) rfl fun v1 w4 _ hk F => ?_
     obtain ⟨rfl, hl⟩ := hk
     have s7 := hj _ _ hl
     refine gw 5 F rfl fun _ F => Ll F H 14 1 rfl rfl rfl (fun hm H _ F => ?_) (fun hm H _ F => ?_)
     ·cases H
      replace H := R1
      try dsimp only at H
      cases H
      obtain rfl := hr _ rfl
      replace H := R0
      try dsimp only at H
      cases H
      exact rt F ⟨rfl, s7.drop.drop⟩
     cases H
     exact ⟨_, rfl, F.sb, s7⟩
    cases H
    exact gw 11 F rfl fun _ F => ⟨_, rfl, F.sb, s6.f1⟩
   intro _ w5 hJ
   obtain ⟨p1, rfl, F, s8⟩ := hJ
   have H := R1
   clear R1 H1
   try dsimp only at H
   refine ge 4 F rfl fun _ F => Ki F s8 m1 0 rfl fun _ F => ?_
   obtain ⟨o3, H2, R2⟩ := Aa H
   clear H
   refine gx F (Ah rfl underlying47 (fR hc s8)) 3 rfl rfl fun _ F => Acs (fun a w_ => ∃ p2 : Unit, o3 = .inr (p2) ∧ Fr a 74 [(5, clo 182 [jP g8]), (39, v0_1), (40, jI (a0.OS.length : Int)), (41, jI s3), (50, .pointer (some ⟨g0, 1, none⟩)), (51, jU (x1.Result.toNat : Int)), (52, .bool ((x1.Result.toNat : Int) != 0)), (53, .bool p1.1), (59, .bool p1.2)] ∧ SL w [] w_ [Cw g8 110 [v0_0, v0_1, jI a0.Fn], Cw g0 50 [v0, jU (x1.Result.toNat : Int)]]) ?_ ?_
   ·have H := H2
    refine gc 1 F rfl fun _ F => lpk (Aju a0 x1) (fun s9 a w_ => Fr a 74 [(5, clo 182 [jP g8]), (39, v0_1), (40, jI (a0.OS.length : Int)), (41, jI s3), (50, .pointer (some ⟨g0, 1, none⟩)), (51, jU (x1.Result.toNat : Int)), (52, .bool ((x1.Result.toNat : Int) != 0)), (53, .bool p1.1), (59, .bool p1.2), (62, v0), (63, jI (x1.Abs.length : Int)), (64, jI s9)] ∧ SL w [] w_ [Cw g8 110 [v0_0, v0_1, jI a0.Fn], Cw g0 50 [v0, jU (x1.Result.toNat : Int)]]) H ?_ ?_
    ·exact ⟨F.sb, s8⟩
    intro s9 _ w6 hn o4 H hr
    obtain ⟨F, sa⟩ := hn
    replace H : Aju a0 x1 s9 = some o4 := H
    unfold Aju at H
    refine gc 6 F rfl fun _ F => Ll F H 6 4 rfl rfl rfl (fun ho H _ F => ?_) (fun ho H _ F => ?_)
    ·obtain ⟨x3, hp, H⟩ := Aa H
     obtain ⟨a3, hq, hs⟩ := Alr Flat.u8 (rdL hc sa) Abp rfl hp
     refine gi F hq 0 rfl fun _ F => ?_
     obtain ⟨x4, ht, H⟩ := Aa H
     obtain ⟨G2, hu, hv, hw, hx⟩ := SL.open_ (ps := [Cw g8 110 [v0_0, v0_1, jI a0.Fn]]) (rest := [Cw g0 50 [v0, jU (x1.Result.toNat : Int)]]) sa
     refine gx F (An Acy rfl (Abe.at_ hs (o := 0) rfl)) 7 rfl rfl fun _ F => ?_
     refine Aky (args := [.tmp 69]) F ABg rfl rfl (Asq (a0 := x3) (a1 := (⟨a0.Classes, a0.OS, a0.Fn⟩ : GG)) hu (hr0_0.pass sa hv) (hr0_1.pass sa hv) ht) rfl fun v2 w7 _ hy F => ?_
     obtain ⟨rfl, hz⟩ := hy
     have sc := hx _ _ hz
     refine gw 3 F rfl fun _ F => Ll F H 17 7 rfl rfl rfl (fun h10 H _ F => ?_) (fun h10 H _ F => ?_)
     ·cases H
      obtain rfl := hr _ rfl
      replace H := R2
      try dsimp only at H
      cases H
      obtain rfl := hr _ rfl
      replace H := R0
      try dsimp only at H
      cases H
      exact rt F ⟨rfl, sc.drop.drop⟩
     cases H
     exact ⟨_, rfl, F.sb, sc⟩
    cases H
    obtain rfl := hr _ rfl
    exact ⟨_, rfl, F.sb, sa⟩
   intro _ w8 hJ
   obtain ⟨p2, rfl, F, sd⟩ := hJ
   have H := R2
   clear R2 H2
   try dsimp only at H
   cases H
   exact ge 6 F rfl fun _ F => ⟨_, rfl, F.sb, sd.f1.drop⟩
  cases H
  obtain rfl := hr _ rfl
  exact ⟨_, rfl, F.sb, s4.drop⟩
 intro _ wa hJ
 obtain ⟨p0, rfl, F, se⟩ := hJ
 have H := R0
 clear R0 H0
 try dsimp only at H
 cases H
 exact ge 7 F rfl fun _ F => rt F ⟨rfl, se⟩
theorem Aoa {w : World} {a0 : B0} {r : Bool} (H : Ak4 a0 = some r) :
    Calls prog 183 #[.agg ⟨(jI a0.Locals :: jI a0.Height :: XK a0.Slots)⟩] w (Ret fun u_ w_ => u_ = .bool r ∧ SL w [] w_ []) := by
 have s0 : SL w [] w [] := SL.Abr w
 refine cin func183 ntmps183 2 rfl rfl rfl fun _ F0 => ?_
 unfold Ak4 at H
 refine Ar F0 s0 rfl rfl rfl fun g8 w9 _ F s1 => gw 6 F rfl fun _ F => Ki F s1 m0 2 rfl fun _ F => bsp 6 F H (fun h0 H F => ?_) (fun h0 H F => ?_)
 ·refine gw 1 F rfl fun _ F => Lm F rfl rfl <| Ki F s1 m0 3 rfl fun _ F => bsp 11 F H (fun h1 H F => ?_) (fun h1 H F => ?_)
  ·refine gw 1 F rfl fun _ F => Lm F rfl rfl <| Ki F s1 m0 3 rfl fun _ F => bsp 16 F H (fun h2 H F => ?_) (fun h2 H F => ?_)
   ·refine gw 1 F rfl fun _ F => Lm F rfl rfl <| Ki F s1 m0 1 rfl fun _ F => Lm F rfl rfl ?_
    cases H
    exact Ki F s1 m0 7 rfl fun _ F => rt F ⟨rfl, s1.drop⟩
   cases H
   exact gw 11 F rfl fun _ F => rt F ⟨rfl, s1.drop⟩
  cases H
  exact gw 16 F rfl fun _ F => rt F ⟨rfl, s1.drop⟩
 cases H
 exact gw 21 F rfl fun _ F => rt F ⟨rfl, s1.drop⟩
theorem As1 {w : World} {a0 : B0} {r : B0} (H : Am1 a0 = some r) :
    Calls prog 184 #[.agg ⟨(jI a0.Locals :: jI a0.Height :: XK a0.Slots)⟩] w (Ret fun u_ w_ => u_ = .agg ⟨(jI r.Locals :: jI r.Height :: XK r.Slots)⟩ ∧ SL w [] w_ []) := by
 have s0 : SL w [] w [] := SL.Abr w
 refine cin func184 ntmps184 2 rfl rfl rfl fun _ F0 => ?_
 unfold Am1 at H
 refine Ar F0 s0 rfl rfl rfl fun g0 w0 _ F s1 => Af F s1 Ol rfl rfl fun g1 w1 _ F s2 => gw 5 F rfl fun _ F => Ki F s2 m1 1 rfl fun _ F => Ki F s2 m1 0 rfl fun _ F => ?_
 refine gx F (Al (vs := [jI a0.Locals, jI a0.Height]) Ol Adw rfl (cs := (jI a0.Locals :: jI a0.Height :: XK (Vector.replicate 24 (0 : UInt8)))) (Afm rfl rfl (by simp) <| Afm rfl rfl (by simp) <| Ac1)) 0 rfl rfl fun _ F => ?_
 refine Af F s2 Ol rfl rfl fun g2 w2 _ F s3 => ?_
 refine O4 (ds := (jI a0.Locals :: jI a0.Height :: XK (Vector.replicate 24 (0 : UInt8)))) F s3 rfl rfl (by simpa using Aay) (Ab rfl (Ab rfl (Abi _))) (by simp) fun w3 _ F s4 => ?_
 obtain ⟨x0, h0, H⟩ := Aa H
 refine gw 3 F rfl fun _ F => Ad4 Abj s4.drop ?_
 refine hq [0, 1, 2, 3, 4, 5, 7, 8] F s4.drew.drop (QI.ev 2 rfl <| QI.ld m1 rfl <| QI.ev 1 rfl <| QI.ld m1 rfl <| QI.ev 2 rfl <| QI.op rfl (fun _ hC => AFx Ae9 rfl) rfl <| QI.nil) (by kernel_rfl) fun _ F => ?_
 refine ho 6 rfl (by kernel_rfl) ?_
 refine gx F (AIo Ae9 (AAn h0).1 (AAn h0).2 rfl rfl) 1 rfl rfl fun _ F => ⟨s4.drew.drop, ?_⟩
 refine ho 9 rfl (by kernel_rfl) ?_
 refine ADv (q := (wr (a0.Locals + a0.Height)).toNat) (pre := [jI a0.Locals, jI a0.Height]) (pre2 := [jI a0.Locals, jI a0.Height]) F s4.drew m1 rfl rfl (AKo h0) Abp rfl rfl rfl (cs' := (jI a0.Locals :: jI a0.Height :: XK (vcp (Vector.replicate 24 (0 : UInt8)) a0.Slots ((wr (a0.Locals + a0.Height)).toNat)))) (by simp only [List.cons_append, List.nil_append]) fun w4 _ F s5 => ?_
 refine gw 1 F rfl fun _ F => ⟨s5.drop, ?_⟩
 refine Aew (by kernel_rfl) ?_
 refine ge 3 F rfl fun _ F => gla F s5 m0 0 rfl fun _ F => ?_
 refine O4 (ds := (jI a0.Locals :: jI a0.Height :: XK (vcp (Vector.replicate 24 (0 : UInt8)) a0.Slots ((wr (a0.Locals + a0.Height)).toNat)))) F s5.f1 rfl rfl (by simpa using Aay) (Ab rfl (Ab rfl (Abi _))) (by simp) fun w5 _ F s6 => ?_
 cases H
 refine gw 3 F rfl fun _ F => ?_
 refine Ak (rs := [.cell 2 118]) (vs := [.agg ⟨(jI a0.Locals :: jI a0.Height :: XK (vcp (Vector.replicate 24 (0 : UInt8)) a0.Slots ((wr (a0.Locals + a0.Height)).toNat)))⟩]) F (by rfl) ⟨_, _, rfl, Am s6 m0 rfl Aa9 (by simp), rfl⟩ ⟨_, rfl, ⟨rfl, s6.drop.drop.drop⟩⟩
theorem Aux {w : World} {v0 : Value} {a0 : List BV} {a1 : B0} {r : Int} (hr0 : Rd Hw w [] v0 a0) (H : Alv a0 a1 = some r) :
    Calls prog 160 #[v0, .agg ⟨(jI a1.Locals :: jI a1.Height :: XK a1.Slots)⟩] w (Ret fun u_ w_ => u_ = jI r ∧ SL w [] w_ []) := by
 have s0 : SL w [] w [] := SL.Abr w
 refine cin func160 ntmps160 2 rfl rfl rfl fun _ F0 => ?_
 unfold Alv at H
 refine Ar F0 s0 rfl rfl rfl fun g8 w9 _ F s1 => ?_
 obtain ⟨x0, h0, H⟩ := Aa H
 refine gw 5 F rfl fun _ F => Be (!x0) (fun h1 => ?_) (fun h1 => ?_)
 ·replace H := As3 h1 H
  refine Alj Abj s1 F (QR.qo (fun _ hC => Av Aa9 rfl (hC.Afh m0 (o := 0) (ds := (jI a1.Locals :: jI a1.Height :: XK a1.Slots)) (Al8 (pre := []) rfl rfl)) (by simp)) rfl <| QR.call (args := [.tmp 7]) AA6 rfl (fun _ hC => Bf (Aoa (a0 := (⟨a1.Locals, a1.Height, a1.Slots⟩ : B0)) h0) hC) <| QR.ev 2 rfl <| QR.qs rfl rfl (Aj rfl h1) Ad rfl rfl <| QR.qs rfl rfl (Aj rfl h1) Ad rfl rfl <| QR.qs rfl rfl (Aj rfl h1) Ad rfl rfl <| QR.qs rfl rfl (Aj rfl h1) Ad rfl rfl <| QR.qo (fun _ hC => Bg (Aqo rfl h1) rfl) rfl <| Bb) fun w0 _ s2 F => ?_
  cases H
  exact ge 9 F rfl fun _ F => rt F ⟨rfl, s2.drop⟩
 replace H := As4 h1 H
 obtain ⟨x1, h2, H⟩ := Aa H
 refine Alj Abj s1 F (QR.qo (fun _ hC => Av Aa9 rfl (hC.Afh m0 (o := 0) (ds := (jI a1.Locals :: jI a1.Height :: XK a1.Slots)) (Al8 (pre := []) rfl rfl)) (by simp)) rfl <| QR.call (args := [.tmp 7]) AA6 rfl (fun _ hC => Bf (Aoa (a0 := (⟨a1.Locals, a1.Height, a1.Slots⟩ : B0)) h0) hC) <| QR.ev 2 rfl <| QR.qg (fun _ hC => Av Aa9 rfl (hC.Afh m0 (o := 0) (ds := (jI a1.Locals :: jI a1.Height :: XK a1.Slots)) (Al8 (pre := []) rfl rfl)) (by simp)) rfl rfl (Aj rfl h1) rfl rfl <| QR.AEq rfl (Aj rfl h1) (args := [.tmp 11]) AIi rfl (fun _ hC => Bf (As1 (a0 := (⟨a1.Locals, a1.Height, a1.Slots⟩ : B0)) h2) hC) <| QR.qg (fun _ hC => Av Aa9 rfl (hC.Afh m0 (o := 0) (ds := (jI a1.Locals :: jI a1.Height :: XK a1.Slots)) (Al8 (pre := []) rfl rfl)) (by simp)) rfl rfl (Aj rfl h1) rfl rfl <| QR.qg (fun _ hC => A21 (xs := (jI x1.Locals :: jI x1.Height :: XK x1.Slots)) (ys := (jI a1.Locals :: jI a1.Height :: XK a1.Slots)) Au6 (by decide) rfl rfl (A3g Au6 A4u (Bi rfl (Bj Acx rfl) (Bj Acx rfl) (EqAt.up (j := 2) (Auu underlying3) (by decide)) (Bi rfl (Bj Acx rfl) (Bj Acx rfl) (EqAt.up (j := 2) (Auu underlying3) (by decide)) (Bi rfl (Ay7 Arc (Aw0 (pre := [jI x1.Locals, jI x1.Height]) rfl rfl) (by simp)) (Ay7 Arc (Aw0 (pre := [jI a1.Locals, jI a1.Height]) rfl rfl) (by simp)) (EqAt.up (j := 2) (A4e Ae9 underlying48 A6v) (by decide)) A3f))))) rfl rfl (Aj rfl h1) rfl rfl <| QR.qo (fun _ hC => Bk (Aqo rfl h1) rfl) rfl <| Bb) fun w1 _ s3 F => ?_
 refine ge 1 F rfl fun _ F => Ll F H 7 6 rfl rfl rfl (fun h3 H _ F => ?_) (fun h3 H _ F => ?_)
 ·cases H
  exact rt F ⟨rfl, s3.drop⟩
 obtain ⟨o0, H0, R0⟩ := Aa H
 clear H
 refine gx F (AIl (pre := [jI a1.Locals, jI a1.Height]) s3 m0 rfl Arc rfl) 3 rfl rfl fun _ F => Acs (fun a w_ => ∃ p0 : Unit, o0 = .inr (p0) ∧ Fr a 26 [] ∧ SL w [] w_ []) ?_ ?_
 ·have H := H0
  refine gc 1 F rfl fun _ F => lpk (Akq a0 a1) (fun s4 a w_ => Fr a 26 [(0, v0), (17, .agg ⟨XK a1.Slots⟩), (18, jI s4)] ∧ SL w [] w_ []) H ?_ ?_
  ·exact ⟨F.sb, s3.drop⟩
  intro s4 _ w2 h4 o1 H hr
  obtain ⟨F, s5⟩ := h4
  replace H : Akq a0 a1 s4 = some o1 := H
  unfold Akq at H
  refine gc 6 F rfl fun _ F => Ll F H 6 4 rfl rfl rfl (fun h5 H _ F => ?_) (fun h5 H _ F => ?_)
  ·obtain ⟨x2, h6, H⟩ := Aa H
   obtain ⟨x3, h7, H⟩ := Aa H
   refine gx F (AFf Ae9 Acy rfl rfl h6) 7 rfl rfl fun _ F => gca F s5 (Ak6 (hr0.M3 s5) h7) 3 rfl rfl rfl rfl fun w3 _ F s6 => Ll F H 12 7 rfl rfl rfl (fun h8 H _ F => ?_) (fun h8 H _ F => ?_)
   ·cases H
    obtain rfl := hr _ rfl
    replace H := R0
    try dsimp only at H
    cases H
    exact rt F ⟨rfl, s6⟩
   cases H
   exact ⟨_, rfl, F.sb, s6⟩
  cases H
  obtain rfl := hr _ rfl
  exact ⟨_, rfl, F.sb, s5⟩
 intro _ w4 hJ
 obtain ⟨p0, rfl, F, s7⟩ := hJ
 have H := R0
 clear R0 H0
 try dsimp only at H
 cases H
 exact ge 7 F rfl fun _ F => rt F ⟨rfl, s7⟩
theorem Apu {w : World} {a0 : UInt8} {r : BQ} (H : Am5 a0 = some r) :
    Calls prog 200 #[jU (a0.toNat : Int)] w (Ret fun u_ w_ => u_ = .agg ⟨[jI r.kind, jU (r.t.toNat : Int)]⟩ ∧ SL w [] w_ []) := by
 have s0 : SL w [] w [] := SL.Abr w
 refine cin func200 ntmps200 2 rfl rfl rfl fun _ F0 => ?_
 unfold Am5 at H
 refine Af F0 s0 Ag5 rfl rfl fun g7 w8 q9 F s1 => gw 5 F rfl fun _ F => gx F (Al (vs := [jI 4, jU (a0.toNat : Int)]) Ag5 Amk rfl (cs := [jI 4, jU (a0.toNat : Int)]) (rfl)) 0 rfl rfl fun _ F => Ai F s1 rfl rfl A0j (Ab rfl (Ab rfl Ap)) (Ac rfl) fun w0 _ F s2 => ?_
 cases H
 refine gw 3 F rfl fun _ F => ?_
 refine Ak (rs := [.cell 2 253]) (vs := [.agg ⟨[jI 4, jU (a0.toNat : Int)]⟩]) F (by rfl) ⟨_, _, rfl, Am s2 m0 rfl A8n rfl, rfl⟩ ⟨_, rfl, ⟨rfl, s2.drop⟩⟩
theorem Adg {w : World} {v0 : Value} (hc0 : v0.cells = #[v0]) :
    Calls prog 201 #[v0] w (Ret fun u_ w_ => ∃ g0 : Nat, u_ = clo 214 [jP g0] ∧ SL w [] w_ [Cw g0 47 [v0]]) := by
  have s0 : SL w [] w [] := SL.Abr w
  refine Ap7 func201 rfl ntmps201 (Nat.le_of_ble_eq_true rfl) (args := [v0]) fun q0 F0 => ?_
  refine wp_seq ?_
  refine Akh ?_
  refine Ats F0 s0 rfl hc0 rfl fun g0 w1 q1 F1 s1 => ?_
  refine Alp F1 (PR.op (Ams rfl) <| PR.nil) fun q2 F2 => ?_
  refine Aj3 ?_
  refine Aj0 ?_
  refine wp_seq ?_
  refine Akh ?_
  refine Alp F2 (PR.op (Ajn (cs := [.tmp 1]) (vs := [jP g0]) rfl) <| PR.op (Ams rfl) <| PR.nil) fun q3 F3 => ?_
  refine Aj3 ?_
  refine Aj0 ?_
  refine wp_ret ?_
  refine Aqk (rs := [.tmp 2]) (vs := [clo 214 [jP g0]]) F3 (by rfl) ⟨_, _, rfl, RV.tmp rfl, rfl⟩ ⟨_, rfl, ⟨g0, rfl, s1⟩⟩
theorem Adt {w : World} {v0 v1 : Value} (hc0 : v0.cells = #[v0]) (hc1 : v1.cells = #[v1]) :
    Calls prog 202 #[v0, v1] w (Ret fun u_ w_ => ∃ g0 g1 : Nat, u_ = clo 215 [jP g0, jP g1] ∧ SL w [] w_ [Cw g1 142 [v1], Cw g0 224 [v0]]) := by
  have s0 : SL w [] w [] := SL.Abr w
  refine Ap7 func202 rfl ntmps202 (Nat.le_of_ble_eq_true rfl) (args := [v0, v1]) fun q0 F0 => ?_
  refine wp_seq ?_
  refine Akh ?_
  refine Ats F0 s0 rfl hc0 rfl fun g0 w1 q1 F1 s1 => ?_
  refine Ats F1 s1 rfl hc1 rfl fun g1 w2 q2 F2 s2 => ?_
  refine Alp F2 (PR.op (Ams rfl) <| PR.nil) fun q3 F3 => ?_
  refine Aj3 ?_
  refine Aj0 ?_
  refine wp_seq ?_
  refine Akh ?_
  refine Alp F3 (PR.op (Ajn (cs := [.tmp 2, .tmp 3]) (vs := [jP g0, jP g1]) rfl) <| PR.op (Ams rfl) <| PR.nil) fun q4 F4 => ?_
  refine Aj3 ?_
  refine Aj0 ?_
  refine wp_ret ?_
  refine Aqk (rs := [.tmp 4]) (vs := [clo 215 [jP g0, jP g1]]) F4 (by rfl) ⟨_, _, rfl, RV.tmp rfl, rfl⟩ ⟨_, rfl, ⟨g0, g1, rfl, s2⟩⟩
theorem Aut {w : World} {v0 v1 : Value} (hc0 : v0.cells = #[v0]) (hc1 : v1.cells = #[v1]) :
    Calls prog 208 #[v0, v1] w (Ret fun u_ w_ => ∃ g0 g1 : Nat, u_ = clo 216 [jP g1, jP g0] ∧ SL w [] w_ [Cw g1 4 [v1], Cw g0 224 [v0]]) := by
  have s0 : SL w [] w [] := SL.Abr w
  refine Ap7 func208 rfl ntmps208 (Nat.le_of_ble_eq_true rfl) (args := [v0, v1]) fun q0 F0 => ?_
  refine wp_seq ?_
  refine Akh ?_
  refine Ats F0 s0 rfl hc0 rfl fun g0 w1 q1 F1 s1 => ?_
  refine Ats F1 s1 rfl hc1 rfl fun g1 w2 q2 F2 s2 => ?_
  refine Alp F2 (PR.op (Ams rfl) <| PR.nil) fun q3 F3 => ?_
  refine Aj3 ?_
  refine Aj0 ?_
  refine wp_seq ?_
  refine Akh ?_
  refine Alp F3 (PR.op (Ajn (cs := [.tmp 3, .tmp 2]) (vs := [jP g1, jP g0]) rfl) <| PR.op (Ams rfl) <| PR.nil) fun q4 F4 => ?_
  refine Aj3 ?_
  refine Aj0 ?_
  refine wp_ret ?_
  refine Aqk (rs := [.tmp 4]) (vs := [clo 216 [jP g1, jP g0]]) F4 (by rfl) ⟨_, _, rfl, RV.tmp rfl, rfl⟩ ⟨_, rfl, ⟨g0, g1, rfl, s2⟩⟩
theorem A16 {w : World} {v0 : Value} (hc0 : v0.cells = #[v0]) :
    Calls prog 209 #[v0] w (Ret fun u_ w_ => ∃ g0 : Nat, u_ = clo 218 [jP g0] ∧ SL w [] w_ [Cw g0 4 [v0]]) := by
  have s0 : SL w [] w [] := SL.Abr w
  refine Ap7 func209 rfl ntmps209 (Nat.le_of_ble_eq_true rfl) (args := [v0]) fun q0 F0 => ?_
  refine wp_seq ?_
  refine Akh ?_
  refine Ats F0 s0 rfl hc0 rfl fun g0 w1 q1 F1 s1 => ?_
  refine Alp F1 (PR.op (Ams rfl) <| PR.nil) fun q2 F2 => ?_
  refine Aj3 ?_
  refine Aj0 ?_
  refine wp_seq ?_
  refine Akh ?_
  refine Alp F2 (PR.op (Ajn (cs := [.tmp 1]) (vs := [jP g0]) rfl) <| PR.op (Ams rfl) <| PR.nil) fun q3 F3 => ?_
  refine Aj3 ?_
  refine Aj0 ?_
  refine wp_ret ?_
  refine Aqk (rs := [.tmp 2]) (vs := [clo 218 [jP g0]]) F3 (by rfl) ⟨_, _, rfl, RV.tmp rfl, rfl⟩ ⟨_, rfl, ⟨g0, rfl, s1⟩⟩
set_option maxHeartbeats 4000000 in
theorem A9n {w : World} {r : (List (Af0 BQ))} (H : step_table = some r) :
    Calls prog 185 #[] w (Ret fun u_ w_ => ∃ vs : List Value, u_ = .agg ⟨vs⟩ ∧ vs.length = 34 ∧ SL w [] w_ [] ∧ ∀ (k : Nat) (t : Af0 BQ), r[k]? = some t → ∃ tv, vs[k]? = some tv ∧ SL w [] w_ [Tlc Abc HO tv t]) := by
 have s0 : SL w [] w [] := SL.Abr w
 refine cin func185 ntmps185 2 rfl rfl rfl fun _ F0 => ?_
 unfold step_table at H
 refine Af F0 s0 A6c rfl rfl fun g9 w0 _ F s1 => ?_
 have s2 : SL w [] _ [Cw g9 249 (List.replicate 34 .nilFunc)] := s1
 refine gw 1 F rfl fun _ F => ?_
 have F := F.sub (m' := [(0, jP g9)]) ⟨rfl, trivial⟩
 clear F
 obtain ⟨x0, h0, H⟩ := Aa H
 refine ge 3 F rfl fun _ F => gca F s2 (Apu h0) 0 rfl rfl rfl rfl fun w1 _ F s3 => ?_
 obtain ⟨x1, h1, H⟩ := Aa H
 refine gca F s3 (Apu h1) 0 rfl rfl rfl rfl fun w2 _ F s4 => ?_
 obtain ⟨x2, h2, H⟩ := Aa H
 refine gca F s4 (Apu h2) 0 rfl rfl rfl rfl fun w3 _ F s5 => Af F s5 Ag5 rfl rfl fun g0 w4 _ F s6 => Af F s6 Ag5 rfl rfl fun g1 w5 _ F s7 => Af F s7 Ag5 rfl rfl fun g2 w6 _ F s8 => Ai F s8.f2 rfl rfl A0j (Ab rfl (Ab rfl Ap)) (Ac rfl) fun w7 _ F s9 => ?_
 replace s9 : SL w [] w7 [Cw g0 253 [jI x0.kind, jU (x0.t.toNat : Int)], Cw g2 253 [jI 0, jU 0], Cw g1 253 [jI 0, jU 0], Cw g9 249 (List.replicate 34 .nilFunc)] := s9
 refine Ai F s9.f2 rfl rfl A0j (Ab rfl (Ab rfl Ap)) (Ac rfl) fun w8 _ F sa => ?_
 replace sa : SL w [] w8 [Cw g1 253 [jI x1.kind, jU (x1.t.toNat : Int)], Cw g0 253 [jI x0.kind, jU (x0.t.toNat : Int)], Cw g2 253 [jI 0, jU 0], Cw g9 249 (List.replicate 34 .nilFunc)] := sa
 refine Ai F sa.f2 rfl rfl A0j (Ab rfl (Ab rfl Ap)) (Ac rfl) fun w9 _ F sc => ?_
 replace sc : SL w [] w9 [Cw g2 253 [jI x2.kind, jU (x2.t.toNat : Int)], Cw g1 253 [jI x1.kind, jU (x1.t.toNat : Int)], Cw g0 253 [jI x0.kind, jU (x0.t.toNat : Int)], Cw g9 249 (List.replicate 34 .nilFunc)] := sc
 refine gw 1 F rfl fun _ F => ?_
 have F := F.sub (m' := [(0, jP g9), (1, jP g0), (2, jP g1), (3, jP g2)]) ⟨rfl, rfl, rfl, rfl, trivial⟩
 clear F
 refine ge 3 F rfl fun _ F => Ki F sc m2 0 rfl fun _ F => Ki F sc m2 0 rfl fun _ F => ?_
 refine Ae (parts := [(0, .tmp 14), (1, .tmp 15)]) Adk ([(⟨x0.kind, x0.t⟩ : BQ), (⟨x0.kind, x0.t⟩ : BQ)] : List BQ) F sc Aea rfl (by decide) rfl rfl rfl (by simp [Value.cells]) rfl rfl rfl fun v0 wa _ F sd => ?_
 refine gw 2 F rfl fun _ F => ?_
 have F := F.sub (m' := [(0, jP g9), (1, jP g0), (2, jP g1), (3, jP g2), (4, v0)]) ⟨rfl, rfl, rfl, rfl, rfl, trivial⟩
 clear F
 refine ge 3 F rfl fun _ F => As (args := [.const (.slice none 0 0)]) F Aey rfl (Adg rfl) rfl fun v1 wb _ h3 F => ?_
 obtain ⟨g3, rfl, h4⟩ := h3
 have se := sd.add h4
 refine Af F se AD6 rfl rfl fun g4 wc _ F sf => Ay F sf rfl rfl AIs rfl rfl rfl fun wd _ F sg => ?_
 replace sg : SL w [] wd [Cw g4 142 [clo 214 [jP g3]], Cw g3 47 [.slice none 0 0], Sl HO v0 ([(⟨x0.kind, x0.t⟩ : BQ), (⟨x0.kind, x0.t⟩ : BQ)] : List BQ), Cw g2 253 [jI x2.kind, jU (x2.t.toNat : Int)], Cw g1 253 [jI x1.kind, jU (x1.t.toNat : Int)], Cw g0 253 [jI x0.kind, jU (x0.t.toNat : Int)], Cw g9 249 (List.replicate 34 .nilFunc)] := sg
 refine gw 1 F rfl fun _ F => ?_
 have F := F.sub (m' := [(0, jP g9), (1, jP g0), (2, jP g1), (3, jP g2), (4, v0), (5, jP g4)]) ⟨rfl, rfl, rfl, rfl, rfl, rfl, trivial⟩
 clear F
 refine ge 3 F rfl fun _ F => Af F sg A6c rfl rfl fun g5 we _ F sh => ?_
 have si : SL w [] _ [Cw g5 249 (List.replicate 34 .nilFunc), Cw g4 142 [clo 214 [jP g3]], Cw g3 47 [.slice none 0 0], Sl HO v0 ([(⟨x0.kind, x0.t⟩ : BQ), (⟨x0.kind, x0.t⟩ : BQ)] : List BQ), Cw g2 253 [jI x2.kind, jU (x2.t.toNat : Int)], Cw g1 253 [jI x1.kind, jU (x1.t.toNat : Int)], Cw g0 253 [jI x0.kind, jU (x0.t.toNat : Int)], Cw g9 249 (List.replicate 34 .nilFunc)] := sh
 obtain ⟨v2, sj⟩ := SL.AJz (n := Abc) (T := HO) (K := 34) si
 refine gw 1 F rfl fun _ F => ?_
 have F := F.sub (m' := [(0, jP g9), (1, jP g0), (2, jP g1), (3, jP g2), (4, v0), (5, jP g4), (6, jP g5)]) ⟨rfl, rfl, rfl, rfl, rfl, rfl, rfl, trivial⟩
 clear F
 refine ge 4 F rfl fun _ F => ?_
 refine A6h (parts := [(0, .const (jU 0)), (1, .const (jU 19)), (2, .const (jU 32))]) (vs := [jU 0, jU 19, jU 32]) F sj Agm rfl (by decide) rfl rfl rfl (A0o (Am0 rfl (Am0 rfl (Am0 rfl A5t)))) rfl fun g6 wf _ F sk => ?_
 refine gx F (Ah rfl underlying42 ⟨_, _, rfl⟩) 2 rfl rfl fun _ F => ?_
 have F := F.sub (m' := [(0, jP g9), (1, jP g0), (2, jP g1), (3, jP g2), (4, v0), (5, jP g4), (6, jP g5), (18, .slice (some ⟨g6, 0, none⟩) 3 3), (19, jI ((3 : Nat) : Int)), (20, jI 0)]) ⟨rfl, rfl, rfl, rfl, rfl, rfl, rfl, rfl, rfl, rfl, trivial⟩
 clear F
 refine ge 2 F rfl fun _ F => rdk 3 <| gc 4 F rfl fun _ F => ?_
 have F := F.sub (m' := [(0, jP g9), (1, jP g0), (2, jP g1), (3, jP g2), (4, v0), (5, jP g4), (6, jP g5), (18, .slice (some ⟨g6, 0, none⟩) 3 3), (19, jI ((3 : Nat) : Int)), (20, jI 0), (21, .bool true)]) ⟨rfl, rfl, rfl, rfl, rfl, rfl, rfl, rfl, rfl, rfl, rfl, trivial⟩
 clear F
 refine ge 9 F rfl fun _ F => ?_
 refine gx F (Aq1 Agm rfl rfl (by decide)) 0 rfl rfl fun _ F => ?_
 refine Ki F sk m0 2 rfl fun _ F => ?_
 have F := F.sub (m' := [(0, jP g9), (1, jP g0), (2, jP g1), (3, jP g2), (4, v0), (5, jP g4), (6, jP g5), (8, jU 0), (18, .slice (some ⟨g6, 0, none⟩) 3 3), (19, jI ((3 : Nat) : Int)), (20, jI 0)]) ⟨rfl, rfl, rfl, rfl, rfl, rfl, rfl, rfl, rfl, rfl, rfl, trivial⟩
 clear F
 refine ge 3 F rfl fun _ F => Ki F sk m3 0 rfl fun _ F => As (args := [.const (.slice none 0 0), .tmp 25]) F Ae8 rfl (Adt rfl rfl) rfl fun v3 wg _ h5 F => ?_
 obtain ⟨g7, g8, rfl, h6⟩ := h5
 have sl := sk.add h6
 refine gx F (Aer (i := 0) Ad3 rfl rfl (by decide)) 0 rfl rfl fun _ F => ?_
 have sm := SL.ABn (qs := [Cw g3 47 [.slice none 0 0]]) sl.f4.f6
 refine Ad0 (nn := Abc) (T := HO) (qs := [Cw g7 224 [.slice none 0 0], Cw g8 142 [clo 214 [jP g3]]]) (q1 := [Cw g3 47 [.slice none 0 0]]) (t := .fixed [] (.const [])) F sm.f4.f2.f3 rfl rfl Ad5 rfl rfl rfl (.inr m0) (fun _ _ h => SL.Afb (n := Abc) rfl (SL.Ac3 (T := HO) (SL.Aeh (c := 214) (d := 203) (s := 204) (t := 47) rfl (SL.Ac3 (T := Ty.u8) h).f3).f2).f3) fun v4 wh _ F sn => gw 1 F rfl fun _ F => ?_
 have F := F.sub (m' := [(0, jP g9), (1, jP g0), (2, jP g1), (3, jP g2), (4, v0), (5, jP g4), (6, jP g5), (18, .slice (some ⟨g6, 0, none⟩) 3 3), (19, jI ((3 : Nat) : Int)), (20, jI 0)]) ⟨rfl, rfl, rfl, rfl, rfl, rfl, rfl, rfl, rfl, rfl, trivial⟩
 clear F
 refine ge 6 F rfl fun _ F => ?_
 have F := F.sub (m' := [(0, jP g9), (1, jP g0), (2, jP g1), (3, jP g2), (4, v0), (5, jP g4), (6, jP g5), (18, .slice (some ⟨g6, 0, none⟩) 3 3), (19, jI ((3 : Nat) : Int)), (20, jI 1)]) ⟨rfl, rfl, rfl, rfl, rfl, rfl, rfl, rfl, rfl, rfl, trivial⟩
 clear F
 refine ge 6 F rfl fun _ F => ?_
 have F := F.sub (m' := [(0, jP g9), (1, jP g0), (2, jP g1), (3, jP g2), (4, v0), (5, jP g4), (6, jP g5), (18, .slice (some ⟨g6, 0, none⟩) 3 3), (19, jI ((3 : Nat) : Int)), (20, jI 1), (21, .bool true)]) ⟨rfl, rfl, rfl, rfl, rfl, rfl, rfl, rfl, rfl, rfl, rfl, trivial⟩
 clear F
 refine ge 9 F rfl fun _ F => ?_
 refine gx F (Aq1 Agm rfl rfl (by decide)) 0 rfl rfl fun _ F => ?_
 refine Ki F sn m2 2 rfl fun _ F => ?_
 have F := F.sub (m' := [(0, jP g9), (1, jP g0), (2, jP g1), (3, jP g2), (4, v0), (5, jP g4), (6, jP g5), (8, jU 19), (18, .slice (some ⟨g6, 0, none⟩) 3 3), (19, jI ((3 : Nat) : Int)), (20, jI 1)]) ⟨rfl, rfl, rfl, rfl, rfl, rfl, rfl, rfl, rfl, rfl, rfl, trivial⟩
 clear F
 refine ge 3 F rfl fun _ F => Ki F sn m3 0 rfl fun _ F => As (args := [.const (.slice none 0 0), .tmp 25]) F Ae8 rfl (Adt rfl rfl) rfl fun v5 wi _ h7 F => ?_
 obtain ⟨ga, gb, rfl, h8⟩ := h7
 have so := sn.add h8
 refine gx F (Aer (i := 19) Ad3 rfl rfl (by decide)) 0 rfl rfl fun _ F => ?_
 refine Ad0 (nn := Abc) (T := HO) (qs := [Cw ga 224 [.slice none 0 0], Cw gb 142 [clo 214 [jP g3]]]) (q1 := [Cw g3 47 [.slice none 0 0]]) (t := .fixed [] (.const [])) F so.f3.f3.f2.f3 rfl rfl Ad5 rfl rfl rfl (.inr m0) (fun _ _ h => SL.Afb (n := Abc) rfl (SL.Ac3 (T := HO) (SL.Aeh (c := 214) (d := 203) (s := 204) (t := 47) rfl (SL.Ac3 (T := Ty.u8) h).f3).f2).f3) fun v6 wj _ F sp => gw 1 F rfl fun _ F => ?_
 have F := F.sub (m' := [(0, jP g9), (1, jP g0), (2, jP g1), (3, jP g2), (4, v0), (5, jP g4), (6, jP g5), (18, .slice (some ⟨g6, 0, none⟩) 3 3), (19, jI ((3 : Nat) : Int)), (20, jI 1)]) ⟨rfl, rfl, rfl, rfl, rfl, rfl, rfl, rfl, rfl, rfl, trivial⟩
 clear F
 refine ge 6 F rfl fun _ F => ?_
 have F := F.sub (m' := [(0, jP g9), (1, jP g0), (2, jP g1), (3, jP g2), (4, v0), (5, jP g4), (6, jP g5), (18, .slice (some ⟨g6, 0, none⟩) 3 3), (19, jI ((3 : Nat) : Int)), (20, jI 2)]) ⟨rfl, rfl, rfl, rfl, rfl, rfl, rfl, rfl, rfl, rfl, trivial⟩
 clear F
 refine ge 6 F rfl fun _ F => ?_
 have F := F.sub (m' := [(0, jP g9), (1, jP g0), (2, jP g1), (3, jP g2), (4, v0), (5, jP g4), (6, jP g5), (18, .slice (some ⟨g6, 0, none⟩) 3 3), (19, jI ((3 : Nat) : Int)), (20, jI 2), (21, .bool true)]) ⟨rfl, rfl, rfl, rfl, rfl, rfl, rfl, rfl, rfl, rfl, rfl, trivial⟩
 clear F
 refine ge 9 F rfl fun _ F => ?_
 refine gx F (Aq1 Agm rfl rfl (by decide)) 0 rfl rfl fun _ F => ?_
 refine Ki F sp m2 2 rfl fun _ F => ?_
 have F := F.sub (m' := [(0, jP g9), (1, jP g0), (2, jP g1), (3, jP g2), (4, v0), (5, jP g4), (6, jP g5), (8, jU 32), (18, .slice (some ⟨g6, 0, none⟩) 3 3), (19, jI ((3 : Nat) : Int)), (20, jI 2)]) ⟨rfl, rfl, rfl, rfl, rfl, rfl, rfl, rfl, rfl, rfl, rfl, trivial⟩
 clear F
 refine ge 3 F rfl fun _ F => Ki F sp m3 0 rfl fun _ F => As (args := [.const (.slice none 0 0), .tmp 25]) F Ae8 rfl (Adt rfl rfl) rfl fun v7 wk _ h9 F => ?_
 obtain ⟨gd, gf, rfl, ha⟩ := h9
 have sq := sp.add ha
 refine gx F (Aer (i := 32) Ad3 rfl rfl (by decide)) 0 rfl rfl fun _ F => ?_
 refine Ad0 (nn := Abc) (T := HO) (qs := [Cw gd 224 [.slice none 0 0], Cw gf 142 [clo 214 [jP g3]]]) (q1 := [Cw g3 47 [.slice none 0 0]]) (t := .fixed [] (.const [])) F sq.f3.f3.f2.f3 rfl rfl Ad5 rfl rfl rfl (.inr m0) (fun _ _ h => SL.Afb (n := Abc) rfl (SL.Ac3 (T := HO) (SL.Aeh (c := 214) (d := 203) (s := 204) (t := 47) rfl (SL.Ac3 (T := Ty.u8) h).f3).f2).f3) fun v8 wl _ F sr => gw 1 F rfl fun _ F => ?_
 have F := F.sub (m' := [(0, jP g9), (1, jP g0), (2, jP g1), (3, jP g2), (4, v0), (5, jP g4), (6, jP g5), (18, .slice (some ⟨g6, 0, none⟩) 3 3), (19, jI ((3 : Nat) : Int)), (20, jI 2)]) ⟨rfl, rfl, rfl, rfl, rfl, rfl, rfl, rfl, rfl, rfl, trivial⟩
 clear F
 refine ge 6 F rfl fun _ F => ?_
 have F := F.sub (m' := [(0, jP g9), (1, jP g0), (2, jP g1), (3, jP g2), (4, v0), (5, jP g4), (6, jP g5), (18, .slice (some ⟨g6, 0, none⟩) 3 3), (19, jI ((3 : Nat) : Int)), (20, jI 3)]) ⟨rfl, rfl, rfl, rfl, rfl, rfl, rfl, rfl, rfl, rfl, trivial⟩
 clear F
 refine ge 6 F rfl fun _ F => ?_
 have F := F.sub (m' := [(0, jP g9), (1, jP g0), (2, jP g1), (3, jP g2), (4, v0), (5, jP g4), (6, jP g5), (18, .slice (some ⟨g6, 0, none⟩) 3 3), (19, jI ((3 : Nat) : Int)), (20, jI 3), (21, .bool false)]) ⟨rfl, rfl, rfl, rfl, rfl, rfl, rfl, rfl, rfl, rfl, rfl, trivial⟩
 clear F
 refine ge 10 F rfl fun _ F => ?_
 refine Ae (parts := [(0, .const (jU 1))]) Flat.u8 ([(1 : UInt8)] : List UInt8) F sr Abp rfl (by decide) rfl rfl rfl (by simp [Value.cells]) rfl rfl rfl fun v9 wm _ F ss => ?_
 refine As (args := [.tmp 29]) F Aey rfl (Adg (Ag (fO ss m0))) rfl fun va wn _ hb F => ?_
 obtain ⟨gg, rfl, hc⟩ := hb
 have st := ss.add hc
 refine As (args := [.const (.slice none 0 0), .tmp 30]) F Ae8 rfl (Adt rfl rfl) rfl fun vb wo _ hd F => ?_
 obtain ⟨gh, gi, rfl, he⟩ := hd
 have su := st.add he
 refine gx F (Aer (i := 1) Ad3 rfl rfl (by decide)) 0 rfl rfl fun _ F => ?_
 refine Ad0 (nn := Abc) (T := HO) (qs := [Cw gh 224 [.slice none 0 0], Cw gi 142 [clo 214 [jP gg]], Cw gg 47 [v9], Sl Ty.u8 v9 ([(1 : UInt8)] : List UInt8)]) (q1 := []) (t := .fixed [] (.const ([(1 : UInt8)] : List UInt8))) F su.f5.f5.f5.f5.f4.f5 rfl rfl Ad5 rfl rfl rfl (.inl rfl) (fun _ _ h => SL.Afb (n := Abc) rfl (SL.Ac3 (T := HO) (SL.Aeh (c := 214) (d := 203) (s := 204) (t := 47) rfl h.f3.f3).f2).f3) fun vc wp _ F sv => gw 1 F rfl fun _ F => ?_
 have F := F.sub (m' := [(0, jP g9), (1, jP g0), (2, jP g1), (3, jP g2), (4, v0), (5, jP g4), (6, jP g5)]) ⟨rfl, rfl, rfl, rfl, rfl, rfl, rfl, trivial⟩
 clear F
 refine ge 3 F rfl fun _ F => ?_
 refine Ae (parts := [(0, .const (jU 2))]) Flat.u8 ([(2 : UInt8)] : List UInt8) F sv.f2.drop Abp rfl (by decide) rfl rfl rfl (by simp [Value.cells]) rfl rfl rfl fun vd wq _ F sw => ?_
 refine As (args := [.tmp 33]) F Aey rfl (Adg (Ag (fO sw m0))) rfl fun ve wr _ hf F => ?_
 obtain ⟨gj, rfl, hg⟩ := hf
 have sx := sw.add hg
 refine As (args := [.const (.slice none 0 0), .tmp 34]) F Ae8 rfl (Adt rfl rfl) rfl fun vf ws _ hh F => ?_
 obtain ⟨gk, gl, rfl, hi⟩ := hh
 have sy := sx.add hi
 refine gx F (Aer (i := 2) Ad3 rfl rfl (by decide)) 0 rfl rfl fun _ F => ?_
 refine Ad0 (nn := Abc) (T := HO) (qs := [Cw gk 224 [.slice none 0 0], Cw gl 142 [clo 214 [jP gj]], Cw gj 47 [vd], Sl Ty.u8 vd ([(2 : UInt8)] : List UInt8)]) (q1 := []) (t := .fixed [] (.const ([(2 : UInt8)] : List UInt8))) F sy.f5.f5.f5.f5.f4.f5 rfl rfl Ad5 rfl rfl rfl (.inl rfl) (fun _ _ h => SL.Afb (n := Abc) rfl (SL.Ac3 (T := HO) (SL.Aeh (c := 214) (d := 203) (s := 204) (t := 47) rfl h.f3.f3).f2).f3) fun vg wt _ F sz => gw 1 F rfl fun _ F => ?_
 have F := F.sub (m' := [(0, jP g9), (1, jP g0), (2, jP g1), (3, jP g2), (4, v0), (5, jP g4), (6, jP g5)]) ⟨rfl, rfl, rfl, rfl, rfl, rfl, rfl, trivial⟩
 clear F
 refine ge 3 F rfl fun _ F => ?_
 refine Ae (parts := [(0, .const (jU 3))]) Flat.u8 ([(3 : UInt8)] : List UInt8) F sz Abp rfl (by decide) rfl rfl rfl (by simp [Value.cells]) rfl rfl rfl fun vh wu _ F s10 => ?_
 refine As (args := [.tmp 37]) F Aey rfl (Adg (Ag (fO s10 m0))) rfl fun vi wv _ hj F => ?_
 obtain ⟨gm, rfl, hk⟩ := hj
 have s11 := s10.add hk
 refine As (args := [.const (.slice none 0 0), .tmp 38]) F Ae8 rfl (Adt rfl rfl) rfl fun vj ww _ hl F => ?_
 obtain ⟨gn, go, rfl, hm⟩ := hl
 have s12 := s11.add hm
 refine gx F (Aer (i := 3) Ad3 rfl rfl (by decide)) 0 rfl rfl fun _ F => ?_
 refine Ad0 (nn := Abc) (T := HO) (qs := [Cw gn 224 [.slice none 0 0], Cw go 142 [clo 214 [jP gm]], Cw gm 47 [vh], Sl Ty.u8 vh ([(3 : UInt8)] : List UInt8)]) (q1 := []) (t := .fixed [] (.const ([(3 : UInt8)] : List UInt8))) F s12.f5.f5.f5.f5.f4.f5 rfl rfl Ad5 rfl rfl rfl (.inl rfl) (fun _ _ h => SL.Afb (n := Abc) rfl (SL.Ac3 (T := HO) (SL.Aeh (c := 214) (d := 203) (s := 204) (t := 47) rfl h.f3.f3).f2).f3) fun vk wx _ F s14 => gw 1 F rfl fun _ F => ?_
 have F := F.sub (m' := [(0, jP g9), (1, jP g0), (2, jP g1), (3, jP g2), (4, v0), (5, jP g4), (6, jP g5)]) ⟨rfl, rfl, rfl, rfl, rfl, rfl, rfl, trivial⟩
 clear F
 refine ge 3 F rfl fun _ F => ?_
 refine Ae (parts := [(0, .const (jU 0))]) Flat.u8 ([(0 : UInt8)] : List UInt8) F s14 Abp rfl (by decide) rfl rfl rfl (by simp [Value.cells]) rfl rfl rfl fun vl wy _ F s16 => ?_
 refine As (args := [.tmp 41]) F Aey rfl (Adg (Ag (fO s16 m0))) rfl fun vm wz _ hn F => ?_
 obtain ⟨gp, rfl, hp⟩ := hn
 have s17 := s16.add hp
 refine As (args := [.const (.slice none 0 0), .tmp 42]) F Ae8 rfl (Adt rfl rfl) rfl fun vn w11 _ hr F => ?_
 obtain ⟨gq, gr, rfl, hs⟩ := hr
 have s18 := s17.add hs
 refine gx F (Aer (i := 4) Ad3 rfl rfl (by decide)) 0 rfl rfl fun _ F => ?_
 refine Ad0 (nn := Abc) (T := HO) (qs := [Cw gq 224 [.slice none 0 0], Cw gr 142 [clo 214 [jP gp]], Cw gp 47 [vl], Sl Ty.u8 vl ([(0 : UInt8)] : List UInt8)]) (q1 := []) (t := .fixed [] (.const ([(0 : UInt8)] : List UInt8))) F s18.f5.f5.f5.f5.f4.f5 rfl rfl Ad5 rfl rfl rfl (.inl rfl) (fun _ _ h => SL.Afb (n := Abc) rfl (SL.Ac3 (T := HO) (SL.Aeh (c := 214) (d := 203) (s := 204) (t := 47) rfl h.f3.f3).f2).f3) fun vo w12 _ F s19 => gw 1 F rfl fun _ F => ?_
 have F := F.sub (m' := [(0, jP g9), (1, jP g0), (2, jP g1), (3, jP g2), (4, v0), (5, jP g4), (6, jP g5)]) ⟨rfl, rfl, rfl, rfl, rfl, rfl, rfl, trivial⟩
 clear F
 refine ge 3 F rfl fun _ F => gx F (Al (vs := [jI 1]) Ag5 Amk rfl (cs := [jI 1, jU 0]) (rfl)) 0 rfl rfl fun _ F => ?_
 refine Ae (parts := [(0, .tmp 45)]) Adk ([(⟨1, 0⟩ : BQ)] : List BQ) F s19 Aea rfl (by decide) rfl rfl rfl (by simp [Value.cells]) rfl rfl rfl fun vp w13 _ F s1a => ?_
 refine Ki F s1a m3 0 rfl fun _ F => As (args := [.tmp 46, .tmp 47]) F Ae8 rfl (Adt (Ag (fO s1a m0)) rfl) rfl fun vq w14 _ hv F => ?_
 obtain ⟨gs, gt, rfl, hw⟩ := hv
 have s1b := s1a.add hw
 refine gx F (Aer (i := 5) Ad3 rfl rfl (by decide)) 0 rfl rfl fun _ F => ?_
 refine Ad0 (nn := Abc) (T := HO) (qs := [Cw gs 224 [vp], Sl HO vp ([(⟨1, 0⟩ : BQ)] : List BQ), Cw gt 142 [clo 214 [jP g3]]]) (q1 := [Cw g3 47 [.slice none 0 0]]) (t := .fixed ([(⟨1, 0⟩ : BQ)] : List BQ) (.const [])) F s1b.f4.f4.f2.f4.f4 rfl rfl Ad5 rfl rfl rfl (.inr m0) (fun _ _ h => SL.Afb (n := Abc) rfl (SL.Aeh (c := 214) (d := 203) (s := 204) (t := 47) rfl (SL.Ac3 (T := Ty.u8) h).f4).f3.f3.f3) fun vr w15 _ F s1c => gw 1 F rfl fun _ F => ?_
 have F := F.sub (m' := [(0, jP g9), (1, jP g0), (2, jP g1), (3, jP g2), (4, v0), (5, jP g4), (6, jP g5)]) ⟨rfl, rfl, rfl, rfl, rfl, rfl, rfl, trivial⟩
 clear F
 refine ge 3 F rfl fun _ F => gx F (Al (vs := [jI 0]) Ag5 Amk rfl (cs := [jI 0, jU 0]) (rfl)) 0 rfl rfl fun _ F => ?_
 refine Ae (parts := [(0, .tmp 50)]) Adk ([(⟨0, 0⟩ : BQ)] : List BQ) F s1c Aea rfl (by decide) rfl rfl rfl (by simp [Value.cells]) rfl rfl rfl fun vt w16 _ F s1d => ?_
 refine Ki F s1d m3 0 rfl fun _ F => As (args := [.tmp 51, .tmp 52]) F Ae8 rfl (Adt (Ag (fO s1d m0)) rfl) rfl fun vu w17 _ hx F => ?_
 obtain ⟨gu, gv, rfl, hy⟩ := hx
 have s1e := s1d.add hy
 refine gx F (Aer (i := 6) Ad3 rfl rfl (by decide)) 0 rfl rfl fun _ F => ?_
 refine Ad0 (nn := Abc) (T := HO) (qs := [Cw gu 224 [vt], Sl HO vt ([(⟨0, 0⟩ : BQ)] : List BQ), Cw gv 142 [clo 214 [jP g3]]]) (q1 := [Cw g3 47 [.slice none 0 0]]) (t := .fixed ([(⟨0, 0⟩ : BQ)] : List BQ) (.const [])) F s1e.f4.f4.f2.f4.f4 rfl rfl Ad5 rfl rfl rfl (.inr m0) (fun _ _ h => SL.Afb (n := Abc) rfl (SL.Aeh (c := 214) (d := 203) (s := 204) (t := 47) rfl (SL.Ac3 (T := Ty.u8) h).f4).f3.f3.f3) fun vv w18 _ F s1f => gw 1 F rfl fun _ F => ?_
 have F := F.sub (m' := [(0, jP g9), (1, jP g0), (2, jP g1), (3, jP g2), (4, v0), (5, jP g4), (6, jP g5)]) ⟨rfl, rfl, rfl, rfl, rfl, rfl, rfl, trivial⟩
 clear F
 refine ge 3 F rfl fun _ F => gx F (Al (vs := [jI 0]) Ag5 Amk rfl (cs := [jI 0, jU 0]) (rfl)) 0 rfl rfl fun _ F => ?_
 refine Ae (parts := [(0, .tmp 55)]) Adk ([(⟨0, 0⟩ : BQ)] : List BQ) F s1f Aea rfl (by decide) rfl rfl rfl (by simp [Value.cells]) rfl rfl rfl fun vw w19 _ F s1g => ?_
 refine As (args := [.tmp 56, .func 203]) F Ae8 rfl (Adt (Ag (fO s1g m0)) rfl) rfl fun vx w1a _ hz F => ?_
 obtain ⟨gy, gz, rfl, h10⟩ := hz
 have s1h := s1g.add h10
 refine gx F (Aer (i := 7) Ad3 rfl rfl (by decide)) 0 rfl rfl fun _ F => ?_
 refine Ad0 (nn := Abc) (T := HO) (qs := [Cw gy 224 [vw], Sl HO vw ([(⟨0, 0⟩ : BQ)] : List BQ), Cw gz 142 [clo 203 []]]) (q1 := []) (t := .fixed ([(⟨0, 0⟩ : BQ)] : List BQ) (.dup)) F s1h.f4.f4.f2.f4.f4 rfl rfl Ad5 rfl rfl rfl (.inl rfl) (fun _ _ h => SL.Afb (n := Abc) rfl (SL.AOb (c := 214) (d := 203) (s := 204) (t := 47) h).f3.f3.f3) fun vy w1b _ F s1i => gw 1 F rfl fun _ F => ?_
 have F := F.sub (m' := [(0, jP g9), (1, jP g0), (2, jP g1), (3, jP g2), (4, v0), (5, jP g4), (6, jP g5)]) ⟨rfl, rfl, rfl, rfl, rfl, rfl, rfl, trivial⟩
 clear F
 refine ge 3 F rfl fun _ F => gx F (Al (vs := [jI 0]) Ag5 Amk rfl (cs := [jI 0, jU 0]) (rfl)) 0 rfl rfl fun _ F => gx F (Al (vs := [jI 0]) Ag5 Amk rfl (cs := [jI 0, jU 0]) (rfl)) 0 rfl rfl fun _ F => ?_
 refine Ae (parts := [(0, .tmp 59), (1, .tmp 60)]) Adk ([(⟨0, 0⟩ : BQ), (⟨0, 0⟩ : BQ)] : List BQ) F s1i Aea rfl (by decide) rfl rfl rfl (by simp [Value.cells]) rfl rfl rfl fun vz w1c _ F s1j => ?_
 refine As (args := [.tmp 61, .func 204]) F Ae8 rfl (Adt (Ag (fO s1j m0)) rfl) rfl fun v10 w1d _ h11 F => ?_
 obtain ⟨g10, g11, rfl, h12⟩ := h11
 have s1k := s1j.add h12
 refine gx F (Aer (i := 8) Ad3 rfl rfl (by decide)) 0 rfl rfl fun _ F => ?_
 refine Ad0 (nn := Abc) (T := HO) (qs := [Cw g10 224 [vz], Sl HO vz ([(⟨0, 0⟩ : BQ), (⟨0, 0⟩ : BQ)] : List BQ), Cw g11 142 [clo 204 []]]) (q1 := []) (t := .fixed ([(⟨0, 0⟩ : BQ), (⟨0, 0⟩ : BQ)] : List BQ) (.swap)) F s1k.f4.f4.f2.f4.f4 rfl rfl Ad5 rfl rfl rfl (.inl rfl) (fun _ _ h => SL.Afb (n := Abc) rfl (SL.ALt (c := 214) (d := 203) (s := 204) (t := 47) h).f3.f3.f3) fun v11 w1e _ F s1l => gw 1 F rfl fun _ F => ?_
 have F := F.sub (m' := [(0, jP g9), (1, jP g0), (2, jP g1), (3, jP g2), (4, v0), (5, jP g4), (6, jP g5)]) ⟨rfl, rfl, rfl, rfl, rfl, rfl, rfl, trivial⟩
 clear F
 refine ge 4 F rfl fun _ F => ?_
 refine A6h (parts := [(0, .const (jU 9)), (1, .const (jU 10)), (2, .const (jU 11)), (3, .const (jU 12)), (4, .const (jU 13))]) (vs := [jU 9, jU 10, jU 11, jU 12, jU 13]) F s1l Agm rfl (by decide) rfl rfl rfl (A0o (Am0 rfl (Am0 rfl (Am0 rfl (Am0 rfl (Am0 rfl A5t)))))) rfl fun g12 w1f _ F s1m => ?_
 refine gx F (Ah rfl underlying42 ⟨_, _, rfl⟩) 2 rfl rfl fun _ F => ?_
 have F := F.sub (m' := [(0, jP g9), (1, jP g0), (2, jP g1), (3, jP g2), (4, v0), (5, jP g4), (6, jP g5), (64, .slice (some ⟨g12, 0, none⟩) 5 5), (65, jI ((5 : Nat) : Int)), (66, jI 0)]) ⟨rfl, rfl, rfl, rfl, rfl, rfl, rfl, rfl, rfl, rfl, trivial⟩
 clear F
 refine ge 2 F rfl fun _ F => rdk 5 <| gc 4 F rfl fun _ F => ?_
 have F := F.sub (m' := [(0, jP g9), (1, jP g0), (2, jP g1), (3, jP g2), (4, v0), (5, jP g4), (6, jP g5), (64, .slice (some ⟨g12, 0, none⟩) 5 5), (65, jI ((5 : Nat) : Int)), (66, jI 0), (67, .bool true)]) ⟨rfl, rfl, rfl, rfl, rfl, rfl, rfl, rfl, rfl, rfl, rfl, trivial⟩
 clear F
 refine ge 9 F rfl fun _ F => ?_
 refine gx F (Aq1 Agm rfl rfl (by decide)) 0 rfl rfl fun _ F => ?_
 refine Ki F s1m m0 2 rfl fun _ F => ?_
 have F := F.sub (m' := [(0, jP g9), (1, jP g0), (2, jP g1), (3, jP g2), (4, v0), (5, jP g4), (6, jP g5), (10, jU 9), (64, .slice (some ⟨g12, 0, none⟩) 5 5), (65, jI ((5 : Nat) : Int)), (66, jI 0)]) ⟨rfl, rfl, rfl, rfl, rfl, rfl, rfl, rfl, rfl, rfl, rfl, trivial⟩
 clear F
 refine ge 4 F rfl fun _ F => ?_
 refine Ae (parts := [(0, .const (jU 1))]) Flat.u8 ([(1 : UInt8)] : List UInt8) F s1m Abp rfl (by decide) rfl rfl rfl (by simp [Value.cells]) rfl rfl rfl fun v12 w1g _ F s1n => ?_
 refine As (args := [.tmp 72]) F Aey rfl (Adg (Ag (fO s1n m0))) rfl fun v13 w1h _ h13 F => ?_
 obtain ⟨g13, rfl, h14⟩ := h13
 have s1o := s1n.add h14
 refine As (args := [.tmp 71, .tmp 73]) F Ae8 rfl (Adt (Ag (fO s1o m6)) rfl) rfl fun v14 w1i _ h15 F => ?_
 obtain ⟨g14, g15, rfl, h16⟩ := h15
 have s1p := s1o.add h16
 refine gx F (Aer (i := 9) Ad3 rfl rfl (by decide)) 0 rfl rfl fun _ F => ?_
 have h17 := Ao3 (s1p.Ac5 m8)
 have s1q := SL.ABn (qs := [Sl HO v0 ([(⟨x0.kind, x0.t⟩ : BQ), (⟨x0.kind, x0.t⟩ : BQ)] : List BQ)]) s1p.f6.f8
 refine Ad0 (nn := Abc) (T := HO) (qs := [Cw g14 224 [v0], Cw g15 142 [clo 214 [jP g13]], Cw g13 47 [v12], Sl Ty.u8 v12 ([(1 : UInt8)] : List UInt8)]) (q1 := [Sl HO v0 ([(⟨x0.kind, x0.t⟩ : BQ), (⟨x0.kind, x0.t⟩ : BQ)] : List BQ)]) (t := .fixed ([(⟨x0.kind, x0.t⟩ : BQ), (⟨x0.kind, x0.t⟩ : BQ)] : List BQ) (.const ([(1 : UInt8)] : List UInt8))) F s1q.f6.f5.f5.f4.f5 rfl rfl Ad5 rfl rfl rfl (.inr m0) (fun _ _ h => SL.Afb (n := Abc) rfl (SL.Aeh (c := 214) (d := 203) (s := 204) (t := 47) rfl h.f3.f3).f2.f3.f3) fun v15 w1j _ F s1r => gw 1 F rfl fun _ F => ?_
 have F := F.sub (m' := [(0, jP g9), (1, jP g0), (2, jP g1), (3, jP g2), (4, v0), (5, jP g4), (6, jP g5), (64, .slice (some ⟨g12, 0, none⟩) 5 5), (65, jI ((5 : Nat) : Int)), (66, jI 0)]) ⟨rfl, rfl, rfl, rfl, rfl, rfl, rfl, rfl, rfl, rfl, trivial⟩
 clear F
 refine ge 6 F rfl fun _ F => ?_
 have F := F.sub (m' := [(0, jP g9), (1, jP g0), (2, jP g1), (3, jP g2), (4, v0), (5, jP g4), (6, jP g5), (64, .slice (some ⟨g12, 0, none⟩) 5 5), (65, jI ((5 : Nat) : Int)), (66, jI 1)]) ⟨rfl, rfl, rfl, rfl, rfl, rfl, rfl, rfl, rfl, rfl, trivial⟩
 clear F
 refine ge 6 F rfl fun _ F => ?_
 have F := F.sub (m' := [(0, jP g9), (1, jP g0), (2, jP g1), (3, jP g2), (4, v0), (5, jP g4), (6, jP g5), (64, .slice (some ⟨g12, 0, none⟩) 5 5), (65, jI ((5 : Nat) : Int)), (66, jI 1), (67, .bool true)]) ⟨rfl, rfl, rfl, rfl, rfl, rfl, rfl, rfl, rfl, rfl, rfl, trivial⟩
 clear F
 refine ge 9 F rfl fun _ F => ?_
 refine gx F (Aq1 Agm rfl rfl (by decide)) 0 rfl rfl fun _ F => ?_
 refine Ki F s1r m2 2 rfl fun _ F => ?_
 have F := F.sub (m' := [(0, jP g9), (1, jP g0), (2, jP g1), (3, jP g2), (4, v0), (5, jP g4), (6, jP g5), (10, jU 10), (64, .slice (some ⟨g12, 0, none⟩) 5 5), (65, jI ((5 : Nat) : Int)), (66, jI 1)]) ⟨rfl, rfl, rfl, rfl, rfl, rfl, rfl, rfl, rfl, rfl, rfl, trivial⟩
 clear F
 refine ge 4 F rfl fun _ F => ?_
 refine Ae (parts := [(0, .const (jU 1))]) Flat.u8 ([(1 : UInt8)] : List UInt8) F s1r Abp rfl (by decide) rfl rfl rfl (by simp [Value.cells]) rfl rfl rfl fun v16 w1k _ F s1s => ?_
 refine As (args := [.tmp 72]) F Aey rfl (Adg (Ag (fO s1s m0))) rfl fun v17 w1l _ h18 F => ?_
 obtain ⟨g16, rfl, h19⟩ := h18
 have s1t := s1s.add h19
 refine As (args := [.tmp 71, .tmp 73]) F Ae8 rfl (Adt (Ag h17) rfl) rfl fun v18 w1m _ h1a F => ?_
 obtain ⟨g17, g18, rfl, h1b⟩ := h1a
 have s1u := s1t.add h1b
 refine gx F (Aer (i := 10) Ad3 rfl rfl (by decide)) 0 rfl rfl fun _ F => ?_
 refine Ad0 (nn := Abc) (T := HO) (qs := [Cw g17 224 [v0], Cw g18 142 [clo 214 [jP g16]], Cw g16 47 [v16], Sl Ty.u8 v16 ([(1 : UInt8)] : List UInt8)]) (q1 := [Sl HO v0 ([(⟨x0.kind, x0.t⟩ : BQ), (⟨x0.kind, x0.t⟩ : BQ)] : List BQ)]) (t := .fixed ([(⟨x0.kind, x0.t⟩ : BQ), (⟨x0.kind, x0.t⟩ : BQ)] : List BQ) (.const ([(1 : UInt8)] : List UInt8))) F s1u.f5.f5.f5.f5.f4.f5 rfl rfl Ad5 rfl rfl rfl (.inr m0) (fun _ _ h => SL.Afb (n := Abc) rfl (SL.Aeh (c := 214) (d := 203) (s := 204) (t := 47) rfl h.f3.f3).f2.f3.f3) fun v19 w1n _ F s1v => gw 1 F rfl fun _ F => ?_
 have F := F.sub (m' := [(0, jP g9), (1, jP g0), (2, jP g1), (3, jP g2), (4, v0), (5, jP g4), (6, jP g5), (64, .slice (some ⟨g12, 0, none⟩) 5 5), (65, jI ((5 : Nat) : Int)), (66, jI 1)]) ⟨rfl, rfl, rfl, rfl, rfl, rfl, rfl, rfl, rfl, rfl, trivial⟩
 clear F
 refine ge 6 F rfl fun _ F => ?_
 have F := F.sub (m' := [(0, jP g9), (1, jP g0), (2, jP g1), (3, jP g2), (4, v0), (5, jP g4), (6, jP g5), (64, .slice (some ⟨g12, 0, none⟩) 5 5), (65, jI ((5 : Nat) : Int)), (66, jI 2)]) ⟨rfl, rfl, rfl, rfl, rfl, rfl, rfl, rfl, rfl, rfl, trivial⟩
 clear F
 refine ge 6 F rfl fun _ F => ?_
 have F := F.sub (m' := [(0, jP g9), (1, jP g0), (2, jP g1), (3, jP g2), (4, v0), (5, jP g4), (6, jP g5), (64, .slice (some ⟨g12, 0, none⟩) 5 5), (65, jI ((5 : Nat) : Int)), (66, jI 2), (67, .bool true)]) ⟨rfl, rfl, rfl, rfl, rfl, rfl, rfl, rfl, rfl, rfl, rfl, trivial⟩
 clear F
 refine ge 9 F rfl fun _ F => ?_
 refine gx F (Aq1 Agm rfl rfl (by decide)) 0 rfl rfl fun _ F => ?_
 refine Ki F s1v m2 2 rfl fun _ F => ?_
 have F := F.sub (m' := [(0, jP g9), (1, jP g0), (2, jP g1), (3, jP g2), (4, v0), (5, jP g4), (6, jP g5), (10, jU 11), (64, .slice (some ⟨g12, 0, none⟩) 5 5), (65, jI ((5 : Nat) : Int)), (66, jI 2)]) ⟨rfl, rfl, rfl, rfl, rfl, rfl, rfl, rfl, rfl, rfl, rfl, trivial⟩
 clear F
 refine ge 4 F rfl fun _ F => ?_
 refine Ae (parts := [(0, .const (jU 1))]) Flat.u8 ([(1 : UInt8)] : List UInt8) F s1v Abp rfl (by decide) rfl rfl rfl (by simp [Value.cells]) rfl rfl rfl fun v1a w1o _ F s1w => ?_
 refine As (args := [.tmp 72]) F Aey rfl (Adg (Ag (fO s1w m0))) rfl fun v1b w1p _ h1c F => ?_
 obtain ⟨g19, rfl, h1d⟩ := h1c
 have s1x := s1w.add h1d
 refine As (args := [.tmp 71, .tmp 73]) F Ae8 rfl (Adt (Ag h17) rfl) rfl fun v1c w1q _ h1e F => ?_
 obtain ⟨g1a, g1b, rfl, h1f⟩ := h1e
 have s1y := s1x.add h1f
 refine gx F (Aer (i := 11) Ad3 rfl rfl (by decide)) 0 rfl rfl fun _ F => ?_
 refine Ad0 (nn := Abc) (T := HO) (qs := [Cw g1a 224 [v0], Cw g1b 142 [clo 214 [jP g19]], Cw g19 47 [v1a], Sl Ty.u8 v1a ([(1 : UInt8)] : List UInt8)]) (q1 := [Sl HO v0 ([(⟨x0.kind, x0.t⟩ : BQ), (⟨x0.kind, x0.t⟩ : BQ)] : List BQ)]) (t := .fixed ([(⟨x0.kind, x0.t⟩ : BQ), (⟨x0.kind, x0.t⟩ : BQ)] : List BQ) (.const ([(1 : UInt8)] : List UInt8))) F s1y.f5.f5.f5.f5.f4.f5 rfl rfl Ad5 rfl rfl rfl (.inr m0) (fun _ _ h => SL.Afb (n := Abc) rfl (SL.Aeh (c := 214) (d := 203) (s := 204) (t := 47) rfl h.f3.f3).f2.f3.f3) fun v1d w1r _ F s1z => gw 1 F rfl fun _ F => ?_
 have F := F.sub (m' := [(0, jP g9), (1, jP g0), (2, jP g1), (3, jP g2), (4, v0), (5, jP g4), (6, jP g5), (64, .slice (some ⟨g12, 0, none⟩) 5 5), (65, jI ((5 : Nat) : Int)), (66, jI 2)]) ⟨rfl, rfl, rfl, rfl, rfl, rfl, rfl, rfl, rfl, rfl, trivial⟩
 clear F
 refine ge 6 F rfl fun _ F => ?_
 have F := F.sub (m' := [(0, jP g9), (1, jP g0), (2, jP g1), (3, jP g2), (4, v0), (5, jP g4), (6, jP g5), (64, .slice (some ⟨g12, 0, none⟩) 5 5), (65, jI ((5 : Nat) : Int)), (66, jI 3)]) ⟨rfl, rfl, rfl, rfl, rfl, rfl, rfl, rfl, rfl, rfl, trivial⟩
 clear F
 refine ge 6 F rfl fun _ F => ?_
 have F := F.sub (m' := [(0, jP g9), (1, jP g0), (2, jP g1), (3, jP g2), (4, v0), (5, jP g4), (6, jP g5), (64, .slice (some ⟨g12, 0, none⟩) 5 5), (65, jI ((5 : Nat) : Int)), (66, jI 3), (67, .bool true)]) ⟨rfl, rfl, rfl, rfl, rfl, rfl, rfl, rfl, rfl, rfl, rfl, trivial⟩
 clear F
 refine ge 9 F rfl fun _ F => ?_
 refine gx F (Aq1 Agm rfl rfl (by decide)) 0 rfl rfl fun _ F => ?_
 refine Ki F s1z m2 2 rfl fun _ F => ?_
 have F := F.sub (m' := [(0, jP g9), (1, jP g0), (2, jP g1), (3, jP g2), (4, v0), (5, jP g4), (6, jP g5), (10, jU 12), (64, .slice (some ⟨g12, 0, none⟩) 5 5), (65, jI ((5 : Nat) : Int)), (66, jI 3)]) ⟨rfl, rfl, rfl, rfl, rfl, rfl, rfl, rfl, rfl, rfl, rfl, trivial⟩
 clear F
 refine ge 4 F rfl fun _ F => ?_
 refine Ae (parts := [(0, .const (jU 1))]) Flat.u8 ([(1 : UInt8)] : List UInt8) F s1z Abp rfl (by decide) rfl rfl rfl (by simp [Value.cells]) rfl rfl rfl fun v1e w1s _ F s20 => ?_
 refine As (args := [.tmp 72]) F Aey rfl (Adg (Ag (fO s20 m0))) rfl fun v1f w1t _ h1g F => ?_
 obtain ⟨g1c, rfl, h1h⟩ := h1g
 have s21 := s20.add h1h
 refine As (args := [.tmp 71, .tmp 73]) F Ae8 rfl (Adt (Ag h17) rfl) rfl fun v1g w1u _ h1i F => ?_
 obtain ⟨g1d, g1e, rfl, h1j⟩ := h1i
 have s22 := s21.add h1j
 refine gx F (Aer (i := 12) Ad3 rfl rfl (by decide)) 0 rfl rfl fun _ F => ?_
 refine Ad0 (nn := Abc) (T := HO) (qs := [Cw g1d 224 [v0], Cw g1e 142 [clo 214 [jP g1c]], Cw g1c 47 [v1e], Sl Ty.u8 v1e ([(1 : UInt8)] : List UInt8)]) (q1 := [Sl HO v0 ([(⟨x0.kind, x0.t⟩ : BQ), (⟨x0.kind, x0.t⟩ : BQ)] : List BQ)]) (t := .fixed ([(⟨x0.kind, x0.t⟩ : BQ), (⟨x0.kind, x0.t⟩ : BQ)] : List BQ) (.const ([(1 : UInt8)] : List UInt8))) F s22.f5.f5.f5.f5.f4.f5 rfl rfl Ad5 rfl rfl rfl (.inr m0) (fun _ _ h => SL.Afb (n := Abc) rfl (SL.Aeh (c := 214) (d := 203) (s := 204) (t := 47) rfl h.f3.f3).f2.f3.f3) fun v1h w1v _ F s23 => gw 1 F rfl fun _ F => ?_
 have F := F.sub (m' := [(0, jP g9), (1, jP g0), (2, jP g1), (3, jP g2), (4, v0), (5, jP g4), (6, jP g5), (64, .slice (some ⟨g12, 0, none⟩) 5 5), (65, jI ((5 : Nat) : Int)), (66, jI 3)]) ⟨rfl, rfl, rfl, rfl, rfl, rfl, rfl, rfl, rfl, rfl, trivial⟩
 clear F
 refine ge 6 F rfl fun _ F => ?_
 have F := F.sub (m' := [(0, jP g9), (1, jP g0), (2, jP g1), (3, jP g2), (4, v0), (5, jP g4), (6, jP g5), (64, .slice (some ⟨g12, 0, none⟩) 5 5), (65, jI ((5 : Nat) : Int)), (66, jI 4)]) ⟨rfl, rfl, rfl, rfl, rfl, rfl, rfl, rfl, rfl, rfl, trivial⟩
 clear F
 refine ge 6 F rfl fun _ F => ?_
 have F := F.sub (m' := [(0, jP g9), (1, jP g0), (2, jP g1), (3, jP g2), (4, v0), (5, jP g4), (6, jP g5), (64, .slice (some ⟨g12, 0, none⟩) 5 5), (65, jI ((5 : Nat) : Int)), (66, jI 4), (67, .bool true)]) ⟨rfl, rfl, rfl, rfl, rfl, rfl, rfl, rfl, rfl, rfl, rfl, trivial⟩
 clear F
 refine ge 9 F rfl fun _ F => ?_
 refine gx F (Aq1 Agm rfl rfl (by decide)) 0 rfl rfl fun _ F => ?_
 refine Ki F s23 m2 2 rfl fun _ F => ?_
 have F := F.sub (m' := [(0, jP g9), (1, jP g0), (2, jP g1), (3, jP g2), (4, v0), (5, jP g4), (6, jP g5), (10, jU 13), (64, .slice (some ⟨g12, 0, none⟩) 5 5), (65, jI ((5 : Nat) : Int)), (66, jI 4)]) ⟨rfl, rfl, rfl, rfl, rfl, rfl, rfl, rfl, rfl, rfl, rfl, trivial⟩
 clear F
 refine ge 4 F rfl fun _ F => ?_
 refine Ae (parts := [(0, .const (jU 1))]) Flat.u8 ([(1 : UInt8)] : List UInt8) F s23 Abp rfl (by decide) rfl rfl rfl (by simp [Value.cells]) rfl rfl rfl fun v1i w1w _ F s24 => ?_
 refine As (args := [.tmp 72]) F Aey rfl (Adg (Ag (fO s24 m0))) rfl fun v1j w1x _ h1k F => ?_
 obtain ⟨g1f, rfl, h1l⟩ := h1k
 have s25 := s24.add h1l
 refine As (args := [.tmp 71, .tmp 73]) F Ae8 rfl (Adt (Ag h17) rfl) rfl fun v1k w1y _ h1m F => ?_
 obtain ⟨g1g, g1h, rfl, h1n⟩ := h1m
 have s26 := s25.add h1n
 refine gx F (Aer (i := 13) Ad3 rfl rfl (by decide)) 0 rfl rfl fun _ F => ?_
 refine Ad0 (nn := Abc) (T := HO) (qs := [Cw g1g 224 [v0], Cw g1h 142 [clo 214 [jP g1f]], Cw g1f 47 [v1i], Sl Ty.u8 v1i ([(1 : UInt8)] : List UInt8)]) (q1 := [Sl HO v0 ([(⟨x0.kind, x0.t⟩ : BQ), (⟨x0.kind, x0.t⟩ : BQ)] : List BQ)]) (t := .fixed ([(⟨x0.kind, x0.t⟩ : BQ), (⟨x0.kind, x0.t⟩ : BQ)] : List BQ) (.const ([(1 : UInt8)] : List UInt8))) F s26.f5.f5.f5.f5.f4.f5 rfl rfl Ad5 rfl rfl rfl (.inr m0) (fun _ _ h => SL.Afb (n := Abc) rfl (SL.Aeh (c := 214) (d := 203) (s := 204) (t := 47) rfl h.f3.f3).f2.f3.f3) fun v1l w1z _ F s27 => gw 1 F rfl fun _ F => ?_
 have F := F.sub (m' := [(0, jP g9), (1, jP g0), (2, jP g1), (3, jP g2), (4, v0), (5, jP g4), (6, jP g5), (64, .slice (some ⟨g12, 0, none⟩) 5 5), (65, jI ((5 : Nat) : Int)), (66, jI 4)]) ⟨rfl, rfl, rfl, rfl, rfl, rfl, rfl, rfl, rfl, rfl, trivial⟩
 clear F
 refine ge 6 F rfl fun _ F => ?_
 have F := F.sub (m' := [(0, jP g9), (1, jP g0), (2, jP g1), (3, jP g2), (4, v0), (5, jP g4), (6, jP g5), (64, .slice (some ⟨g12, 0, none⟩) 5 5), (65, jI ((5 : Nat) : Int)), (66, jI 5)]) ⟨rfl, rfl, rfl, rfl, rfl, rfl, rfl, rfl, rfl, rfl, trivial⟩
 clear F
 refine ge 6 F rfl fun _ F => ?_
 have F := F.sub (m' := [(0, jP g9), (1, jP g0), (2, jP g1), (3, jP g2), (4, v0), (5, jP g4), (6, jP g5), (64, .slice (some ⟨g12, 0, none⟩) 5 5), (65, jI ((5 : Nat) : Int)), (66, jI 5), (67, .bool false)]) ⟨rfl, rfl, rfl, rfl, rfl, rfl, rfl, rfl, rfl, rfl, rfl, trivial⟩
 clear F
 refine ge 9 F rfl fun _ F => Ad4 Abj s27.drop.drop ?_
 refine hq [0] F s27.drew.drop.drop (QI.ld m4 rfl <| QI.nil) (by kernel_rfl) fun _ F => ?_
 refine Aes [0, 1, 2, 3] (fun a w_ => ∃ v1m : Value, ∃ g1i : Nat, ∃ v1n : Value, Fr a 162 [(0, jP g9), (1, jP g0), (2, jP g1), (3, jP g2), (4, v0), (5, jP g4), (6, jP g5), (78, v1m), (80, clo 214 [jP g1i])] ∧ SL w [] w_ [Cw g12 5 [jU 9, jU 10, jU 11, jU 12, jU 13], Cw g4 142 [clo 214 [jP g3]], Cw g2 253 [jI x2.kind, jU (x2.t.toNat : Int)], Cw g1 253 [jI x1.kind, jU (x1.t.toNat : Int)], Cw g0 253 [jI x0.kind, jU (x0.t.toNat : Int)], Cw g9 249 (List.replicate 34 .nilFunc), Sl HO v1m ([(⟨x0.kind, x0.t⟩ : BQ)] : List BQ), Sl Ty.u8 v1n ([(1 : UInt8)] : List UInt8), Cw g1i 47 [v1n], Cw g5 249 v1l, Amv Abc HO 34 v1l (Avn x0 x1 x2) [[Sl HO v0 ([(⟨x0.kind, x0.t⟩ : BQ), (⟨x0.kind, x0.t⟩ : BQ)] : List BQ)], [Cw g3 47 [.slice none 0 0]]]]) ?_ fun hD0 => ?_
 ·rintro a w_ ⟨v1m, g1i, v1n, F, s28⟩
  refine ho 4 rfl (by kernel_rfl) ?_
  refine As (args := [.tmp 78, .tmp 80]) F Ae8 rfl (Adt (Ag (fO s28 m6)) rfl) rfl fun v1o w20 _ h1o F => ?_
  obtain ⟨g1j, g1k, rfl, h1p⟩ := h1o
  have s29 := s28.add h1p
  refine gw 1 F rfl fun _ F => ⟨s29.drop.drop.f6.drop.f6.drop.f6.drop.f6.drop.f6.drop, ?_⟩
  refine hq [5] F s29.drop.drop.f6.drop.f6.drop.f6.drop.f6.drop.f6.drop (QI.op rfl (fun _ hC => Aer (i := 14) Ad3 rfl rfl (by decide)) rfl <| QI.nil) (by kernel_rfl) fun _ F => ?_
  refine ho 6 rfl (by kernel_rfl) ?_
  refine Ad0 (nn := Abc) (T := HO) (qs := [Cw g1j 224 [v1m], Sl HO v1m ([(⟨x0.kind, x0.t⟩ : BQ)] : List BQ), Cw g1k 142 [clo 214 [jP g1i]], Cw g1i 47 [v1n], Sl Ty.u8 v1n ([(1 : UInt8)] : List UInt8)]) (q1 := []) (t := .fixed ([(⟨x0.kind, x0.t⟩ : BQ)] : List BQ) (.const ([(1 : UInt8)] : List UInt8))) F s29.f12.f12.f11.f12.f4.f12.f6 rfl rfl Ad5 rfl rfl rfl (.inl rfl) (fun _ _ h => SL.Afb (n := Abc) rfl (SL.Aeh (c := 214) (d := 203) (s := 204) (t := 47) rfl h.f4.f4).f3.f3.f3) fun v1p w21 _ F s2a => gw 1 F rfl fun _ F => ⟨s2a.drop.drop, ?_⟩
  refine Aew (by kernel_rfl) ?_
  refine ge 4 F rfl fun _ F => ?_
  refine Ae (parts := [(0, .const (jU 2))]) Flat.u8 ([(2 : UInt8)] : List UInt8) F s2a Abp rfl (by decide) rfl rfl rfl (by simp [Value.cells]) rfl rfl rfl fun v1q w22 _ F s2b => ?_
  refine As (args := [.tmp 84]) F Aey rfl (Adg (Ag (fO s2b m0))) rfl fun v1r w23 _ h1q F => ?_
  obtain ⟨g1l, rfl, h1r⟩ := h1q
  have s2c := s2b.add h1r
  refine As (args := [.tmp 83, .tmp 85]) F Ae8 rfl (Adt (Ag h17) rfl) rfl fun v1s w24 _ h1s F => ?_
  obtain ⟨g1m, g1n, rfl, h1t⟩ := h1s
  have s2d := s2c.add h1t
  refine gx F (Aer (i := 15) Ad3 rfl rfl (by decide)) 0 rfl rfl fun _ F => ?_
  refine Ad0 (nn := Abc) (T := HO) (qs := [Cw g1m 224 [v0], Cw g1n 142 [clo 214 [jP g1l]], Cw g1l 47 [v1q], Sl Ty.u8 v1q ([(2 : UInt8)] : List UInt8)]) (q1 := [Sl HO v0 ([(⟨x0.kind, x0.t⟩ : BQ), (⟨x0.kind, x0.t⟩ : BQ)] : List BQ)]) (t := .fixed ([(⟨x0.kind, x0.t⟩ : BQ), (⟨x0.kind, x0.t⟩ : BQ)] : List BQ) (.const ([(2 : UInt8)] : List UInt8))) F s2d.f5.f5.f5.f5.f4.f5 rfl rfl Ad5 rfl rfl rfl (.inr m0) (fun _ _ h => SL.Afb (n := Abc) rfl (SL.Aeh (c := 214) (d := 203) (s := 204) (t := 47) rfl h.f3.f3).f2.f3.f3) fun v1t w25 _ F s2e => gw 1 F rfl fun _ F => ?_
  have F := F.sub (m' := [(0, jP g9), (1, jP g0), (2, jP g1), (3, jP g2), (5, jP g4), (6, jP g5)]) ⟨rfl, rfl, rfl, rfl, rfl, rfl, trivial⟩
  clear F
  refine ge 3 F rfl fun _ F => gx F (Al (vs := [jI 3]) Ag5 Amk rfl (cs := [jI 3, jU 0]) (rfl)) 0 rfl rfl fun _ F => gx F (Al (vs := [jI 3]) Ag5 Amk rfl (cs := [jI 3, jU 0]) (rfl)) 0 rfl rfl fun _ F => ?_
  refine Ae (parts := [(0, .tmp 88), (1, .tmp 89)]) Adk ([(⟨3, 0⟩ : BQ), (⟨3, 0⟩ : BQ)] : List BQ) F s2e.f2.drop Aea rfl (by decide) rfl rfl rfl (by simp [Value.cells]) rfl rfl rfl fun v1u w26 _ F s2f => ?_
  refine Ae (parts := [(0, .const (jU 2))]) Flat.u8 ([(2 : UInt8)] : List UInt8) F s2f Abp rfl (by decide) rfl rfl rfl (by simp [Value.cells]) rfl rfl rfl fun v1v w27 _ F s2g => ?_
  refine As (args := [.tmp 91]) F Aey rfl (Adg (Ag (fO s2g m0))) rfl fun v1w w28 _ h1u F => ?_
  obtain ⟨g1o, rfl, h1v⟩ := h1u
  have s2h := s2g.add h1v
  refine As (args := [.tmp 90, .tmp 92]) F Ae8 rfl (Adt (Ag (fO s2h m2)) rfl) rfl fun v1x w29 _ h1w F => ?_
  obtain ⟨g1p, g1q, rfl, h1x⟩ := h1w
  have s2i := s2h.add h1x
  refine gx F (Aer (i := 16) Ad3 rfl rfl (by decide)) 0 rfl rfl fun _ F => ?_
  refine Ad0 (nn := Abc) (T := HO) (qs := [Cw g1p 224 [v1u], Sl HO v1u ([(⟨3, 0⟩ : BQ), (⟨3, 0⟩ : BQ)] : List BQ), Cw g1q 142 [clo 214 [jP g1o]], Cw g1o 47 [v1v], Sl Ty.u8 v1v ([(2 : UInt8)] : List UInt8)]) (q1 := []) (t := .fixed ([(⟨3, 0⟩ : BQ), (⟨3, 0⟩ : BQ)] : List BQ) (.const ([(2 : UInt8)] : List UInt8))) F s2i.f6.f6.f5.f5.f4.f6.f6 rfl rfl Ad5 rfl rfl rfl (.inl rfl) (fun _ _ h => SL.Afb (n := Abc) rfl (SL.Aeh (c := 214) (d := 203) (s := 204) (t := 47) rfl h.f4.f4).f3.f3.f3) fun v1y w2a _ F s2j => gw 1 F rfl fun _ F => ?_
  have F := F.sub (m' := [(0, jP g9), (1, jP g0), (2, jP g1), (3, jP g2), (5, jP g4), (6, jP g5)]) ⟨rfl, rfl, rfl, rfl, rfl, rfl, trivial⟩
  clear F
  refine ge 2 F rfl fun _ F => Ad4 Abj s2j.drop.drop ?_
  refine hq [0] F s2j.drew.drop.drop (QI.ld m2 rfl <| QI.nil) (by kernel_rfl) fun _ F => ?_
  refine Aes [0, 1, 2, 3] (fun a w_ => ∃ v1z : Value, ∃ g1r : Nat, ∃ v20 : Value, Fr a 162 [(0, jP g9), (1, jP g0), (2, jP g1), (3, jP g2), (5, jP g4), (6, jP g5), (96, v1z), (98, clo 214 [jP g1r])] ∧ SL w [] w_ [Cw g4 142 [clo 214 [jP g3]], Cw g2 253 [jI x2.kind, jU (x2.t.toNat : Int)], Cw g1 253 [jI x1.kind, jU (x1.t.toNat : Int)], Cw g0 253 [jI x0.kind, jU (x0.t.toNat : Int)], Cw g9 249 (List.replicate 34 .nilFunc), Sl HO v1z ([(⟨x1.kind, x1.t⟩ : BQ)] : List BQ), Sl Ty.u8 v20 ([(2 : UInt8)] : List UInt8), Cw g1r 47 [v20], Cw g5 249 v1y, Amv Abc HO 34 v1y (Avp x0 x1 x2) [[Sl HO v0 ([(⟨x0.kind, x0.t⟩ : BQ), (⟨x0.kind, x0.t⟩ : BQ)] : List BQ)], [Cw g3 47 [.slice none 0 0]]]]) ?_ fun hD0 => ?_
  ·rintro a w_ ⟨v1z, g1r, v20, F, s2k⟩
   refine ho 4 rfl (by kernel_rfl) ?_
   refine As (args := [.tmp 96, .tmp 98]) F Ae8 rfl (Adt (Ag (fO s2k m5)) rfl) rfl fun v21 w2b _ h1y F => ?_
   obtain ⟨g1s, g1t, rfl, h1z⟩ := h1y
   have s2l := s2k.add h1z
   refine gw 1 F rfl fun _ F => ⟨s2l.drop.drop.f5.drop.f5.drop.f5.drop.f5.drop.f5.drop, ?_⟩
   refine hq [5] F s2l.drop.drop.f5.drop.f5.drop.f5.drop.f5.drop.f5.drop (QI.op rfl (fun _ hC => Aer (i := 17) Ad3 rfl rfl (by decide)) rfl <| QI.nil) (by kernel_rfl) fun _ F => ?_
   refine ho 6 rfl (by kernel_rfl) ?_
   refine Ad0 (nn := Abc) (T := HO) (qs := [Cw g1s 224 [v1z], Sl HO v1z ([(⟨x1.kind, x1.t⟩ : BQ)] : List BQ), Cw g1t 142 [clo 214 [jP g1r]], Cw g1r 47 [v20], Sl Ty.u8 v20 ([(2 : UInt8)] : List UInt8)]) (q1 := []) (t := .fixed ([(⟨x1.kind, x1.t⟩ : BQ)] : List BQ) (.const ([(2 : UInt8)] : List UInt8))) F s2l.f11.f11.f10.f11.f4.f11.f6 rfl rfl Ad5 rfl rfl rfl (.inl rfl) (fun _ _ h => SL.Afb (n := Abc) rfl (SL.Aeh (c := 214) (d := 203) (s := 204) (t := 47) rfl h.f4.f4).f3.f3.f3) fun v22 w2c _ F s2m => gw 1 F rfl fun _ F => ⟨s2m.drop.drop, ?_⟩
   refine Aew (by kernel_rfl) ?_
   refine ge 3 F rfl fun _ F => gx F (Al (vs := [jI 2]) Ag5 Amk rfl (cs := [jI 2, jU 0]) (rfl)) 0 rfl rfl fun _ F => gx F (Al (vs := [jI 2]) Ag5 Amk rfl (cs := [jI 2, jU 0]) (rfl)) 0 rfl rfl fun _ F => ?_
   refine Ae (parts := [(0, .tmp 101), (1, .tmp 102)]) Adk ([(⟨2, 0⟩ : BQ), (⟨2, 0⟩ : BQ)] : List BQ) F s2m Aea rfl (by decide) rfl rfl rfl (by simp [Value.cells]) rfl rfl rfl fun v23 w2d _ F s2n => ?_
   refine Ae (parts := [(0, .const (jU 2))]) Flat.u8 ([(2 : UInt8)] : List UInt8) F s2n Abp rfl (by decide) rfl rfl rfl (by simp [Value.cells]) rfl rfl rfl fun v24 w2e _ F s2o => ?_
   refine As (args := [.tmp 104]) F Aey rfl (Adg (Ag (fO s2o m0))) rfl fun v25 w2f _ h20 F => ?_
   obtain ⟨g1u, rfl, h21⟩ := h20
   have s2p := s2o.add h21
   refine As (args := [.tmp 103, .tmp 105]) F Ae8 rfl (Adt (Ag (fO s2p m2)) rfl) rfl fun v26 w2g _ h22 F => ?_
   obtain ⟨g1v, g1w, rfl, h23⟩ := h22
   have s2q := s2p.add h23
   refine gx F (Aer (i := 18) Ad3 rfl rfl (by decide)) 0 rfl rfl fun _ F => ?_
   refine Ad0 (nn := Abc) (T := HO) (qs := [Cw g1v 224 [v23], Sl HO v23 ([(⟨2, 0⟩ : BQ), (⟨2, 0⟩ : BQ)] : List BQ), Cw g1w 142 [clo 214 [jP g1u]], Cw g1u 47 [v24], Sl Ty.u8 v24 ([(2 : UInt8)] : List UInt8)]) (q1 := []) (t := .fixed ([(⟨2, 0⟩ : BQ), (⟨2, 0⟩ : BQ)] : List BQ) (.const ([(2 : UInt8)] : List UInt8))) F s2q.f6.f6.f5.f5.f4.f6.f6 rfl rfl Ad5 rfl rfl rfl (.inl rfl) (fun _ _ h => SL.Afb (n := Abc) rfl (SL.Aeh (c := 214) (d := 203) (s := 204) (t := 47) rfl h.f4.f4).f3.f3.f3) fun v27 w2h _ F s2r => gw 1 F rfl fun _ F => ?_
   have F := F.sub (m' := [(0, jP g9), (1, jP g0), (2, jP g1), (3, jP g2), (5, jP g4), (6, jP g5)]) ⟨rfl, rfl, rfl, rfl, rfl, rfl, trivial⟩
   clear F
   refine ge 3 F rfl fun _ F => Ki F s2r m4 0 rfl fun _ F => ?_
   refine Ae (parts := [(0, .tmp 108)]) Adk ([(⟨x1.kind, x1.t⟩ : BQ)] : List BQ) F s2r Aea rfl (by decide) rfl rfl rfl (by simp [Value.cells]) rfl rfl rfl fun v28 w2i _ F s2s => ?_
   refine Ki F s2s m3 0 rfl fun _ F => As (args := [.tmp 109, .tmp 110]) F Ae8 rfl (Adt (Ag (fO s2s m0)) rfl) rfl fun v29 w2j _ h24 F => ?_
   obtain ⟨g1x, g1y, rfl, h25⟩ := h24
   have s2t := s2s.add h25
   refine gx F (Aer (i := 20) Ad3 rfl rfl (by decide)) 0 rfl rfl fun _ F => ?_
   refine Ad0 (nn := Abc) (T := HO) (qs := [Cw g1x 224 [v28], Sl HO v28 ([(⟨x1.kind, x1.t⟩ : BQ)] : List BQ), Cw g1y 142 [clo 214 [jP g3]]]) (q1 := [Cw g3 47 [.slice none 0 0]]) (t := .fixed ([(⟨x1.kind, x1.t⟩ : BQ)] : List BQ) (.const [])) F s2t.f4.f4.f2.f4.f4 rfl rfl Ad5 rfl rfl rfl (.inr m1) (fun _ _ h => SL.Afb (n := Abc) rfl (SL.Aeh (c := 214) (d := 203) (s := 204) (t := 47) rfl (SL.Ac3 (T := Ty.u8) h).f4).f3.f3.f3) fun v2a w2k _ F s2u => gw 1 F rfl fun _ F => ?_
   have F := F.sub (m' := [(0, jP g9), (1, jP g0), (3, jP g2), (5, jP g4), (6, jP g5)]) ⟨rfl, rfl, rfl, rfl, rfl, trivial⟩
   clear F
   refine ge 3 F rfl fun _ F => ?_
   refine gx F (Aer (i := 21) Ad3 rfl rfl (by decide)) 0 rfl rfl fun _ F => ?_
   refine Ad0 (nn := Abc) (T := HO) (qs := []) (q1 := []) (t := .call) F s2u.f1.f1 rfl rfl Ad5 rfl rfl rfl (.inl rfl) (fun _ _ h => SL.ALw (n := Abc) rfl h) fun v2b w2l _ F s2v => gw 1 F rfl fun _ F => ?_
   have F := F.sub (m' := [(0, jP g9), (1, jP g0), (3, jP g2), (5, jP g4), (6, jP g5)]) ⟨rfl, rfl, rfl, rfl, rfl, trivial⟩
   clear F
   refine ge 3 F rfl fun _ F => gx F (Ajn (cs := [.tmp 5]) (vs := [jP g4]) rfl) 0 rfl rfl fun _ F => ?_
   refine gx F (Aer (i := 22) Ad3 rfl rfl (by decide)) 0 rfl rfl fun _ F => ?_
   have s2w := SL.ALv (qs := [Cw g4 142 [clo 214 [jP g3]]]) m1 s2v.f1.f2
   refine Ad0 (nn := Abc) (T := HO) (qs := []) (q1 := [Cw g4 142 [clo 214 [jP g3]], Cw g3 47 [.slice none 0 0]]) (t := .ret (.const [])) F s2w.f1 rfl rfl Ad5 rfl rfl rfl (.inr m0) (fun _ _ h => SL.AOe (n := Abc) rfl (SL.Aeh (c := 214) (d := 203) (s := 204) (t := 47) rfl (SL.Ac3 (T := Ty.u8) h).f2).f1) fun v2c w2m _ F s2x => gw 1 F rfl fun _ F => ?_
   have F := F.sub (m' := [(0, jP g9), (1, jP g0), (3, jP g2), (5, jP g4), (6, jP g5)]) ⟨rfl, rfl, rfl, rfl, rfl, trivial⟩
   clear F
   refine ge 3 F rfl fun _ F => As (args := [.const (.slice none 0 0), .const (.bool true)]) F A4v rfl (Aut rfl rfl) rfl fun v2d w2n _ h26 F => ?_
   obtain ⟨g1z, g20, rfl, h27⟩ := h26
   have s2y := s2x.add h27
   refine gx F (Aer (i := 23) Ad3 rfl rfl (by decide)) 0 rfl rfl fun _ F => ?_
   refine Ad0 (nn := Abc) (T := HO) (qs := [Cw g20 4 [.bool true], Cw g1z 224 [.slice none 0 0]]) (q1 := []) (t := .classed [] true) F s2y.f3.f3.f3.f3 rfl rfl Ad5 rfl rfl rfl (.inl rfl) (fun _ _ h => SL.A0m (n := Abc) rfl (SL.Ac3 (T := HO) h).f2.f2) fun v2e w2o _ F s2z => gw 1 F rfl fun _ F => ?_
   have F := F.sub (m' := [(0, jP g9), (1, jP g0), (3, jP g2), (5, jP g4), (6, jP g5)]) ⟨rfl, rfl, rfl, rfl, rfl, trivial⟩
   clear F
   refine ge 3 F rfl fun _ F => As (args := [.const (.bool false)]) F AA0 rfl (A16 rfl) rfl fun v2f w2p _ h28 F => ?_
   obtain ⟨g21, rfl, h29⟩ := h28
   have s30 := s2z.add h29
   refine gx F (Aer (i := 24) Ad3 rfl rfl (by decide)) 0 rfl rfl fun _ F => ?_
   refine Ad0 (nn := Abc) (T := HO) (qs := [Cw g21 4 [.bool false]]) (q1 := []) (t := .field false) F s30.f2.f2.f2 rfl rfl Ad5 rfl rfl rfl (.inl rfl) (fun _ _ h => SL.ABq (n := Abc) rfl h) fun v2g w2q _ F s31 => gw 1 F rfl fun _ F => ?_
   have F := F.sub (m' := [(0, jP g9), (1, jP g0), (3, jP g2), (5, jP g4), (6, jP g5)]) ⟨rfl, rfl, rfl, rfl, rfl, trivial⟩
   clear F
   refine ge 3 F rfl fun _ F => As (args := [.const (.bool true)]) F AA0 rfl (A16 rfl) rfl fun v2h w2r _ h2a F => ?_
   obtain ⟨g22, rfl, h2b⟩ := h2a
   have s32 := s31.add h2b
   refine gx F (Aer (i := 25) Ad3 rfl rfl (by decide)) 0 rfl rfl fun _ F => ?_
   refine Ad0 (nn := Abc) (T := HO) (qs := [Cw g22 4 [.bool true]]) (q1 := []) (t := .field true) F s32.f2.f2.f2 rfl rfl Ad5 rfl rfl rfl (.inl rfl) (fun _ _ h => SL.ABq (n := Abc) rfl h) fun v2i w2s _ F s33 => gw 1 F rfl fun _ F => ?_
   have F := F.sub (m' := [(0, jP g9), (1, jP g0), (3, jP g2), (5, jP g4), (6, jP g5)]) ⟨rfl, rfl, rfl, rfl, rfl, trivial⟩
   clear F
   refine ge 2 F rfl fun _ F => Ad4 Abj s33.drop.drop ?_
   refine hq [0] F s33.drew.drop.drop (QI.ld m2 rfl <| QI.nil) (by kernel_rfl) fun _ F => ?_
   refine Aes [0, 1, 2, 3] (fun a w_ => ∃ v2j : Value, ∃ g23 : Nat, ∃ v2k : Value, Fr a 162 [(0, jP g9), (1, jP g0), (3, jP g2), (5, jP g4), (6, jP g5), (123, v2j), (125, clo 214 [jP g23])] ∧ SL w [] w_ [Cw g2 253 [jI x2.kind, jU (x2.t.toNat : Int)], Cw g1 253 [jI x1.kind, jU (x1.t.toNat : Int)], Cw g0 253 [jI x0.kind, jU (x0.t.toNat : Int)], Cw g9 249 (List.replicate 34 .nilFunc), Cw g5 249 v2i, Sl HO v2j ([(⟨x0.kind, x0.t⟩ : BQ)] : List BQ), Sl Ty.u8 v2k ([(4 : UInt8)] : List UInt8), Cw g23 47 [v2k], Amv Abc HO 34 v2i (Avh x0 x1 x2) [[Cw g4 142 [clo 214 [jP g3]], Cw g3 47 [.slice none 0 0]], [Sl HO v0 ([(⟨x0.kind, x0.t⟩ : BQ), (⟨x0.kind, x0.t⟩ : BQ)] : List BQ)], [Cw g3 47 [.slice none 0 0]]]]) ?_ fun hD0 => ?_
   ·rintro a w_ ⟨v2j, g23, v2k, F, s34⟩
    refine ho 4 rfl (by kernel_rfl) ?_
    refine As (args := [.tmp 123, .tmp 125]) F Ae8 rfl (Adt (Ag (fO s34 m5)) rfl) rfl fun v2l w2t _ h2c F => ?_
    obtain ⟨g24, g25, rfl, h2d⟩ := h2c
    have s35 := s34.add h2d
    refine gw 1 F rfl fun _ F => ⟨s35.drop.drop.f4.drop.f4.drop.f4.drop.f4.drop.f4.drop, ?_⟩
    refine hq [5] F s35.drop.drop.f4.drop.f4.drop.f4.drop.f4.drop.f4.drop (QI.op rfl (fun _ hC => Aer (i := 26) Ad3 rfl rfl (by decide)) rfl <| QI.nil) (by kernel_rfl) fun _ F => ?_
    refine ho 6 rfl (by kernel_rfl) ?_
    refine Ad0 (nn := Abc) (T := HO) (qs := [Cw g24 224 [v2j], Sl HO v2j ([(⟨x0.kind, x0.t⟩ : BQ)] : List BQ), Cw g25 142 [clo 214 [jP g23]], Cw g23 47 [v2k], Sl Ty.u8 v2k ([(4 : UInt8)] : List UInt8)]) (q1 := []) (t := .fixed ([(⟨x0.kind, x0.t⟩ : BQ)] : List BQ) (.const ([(4 : UInt8)] : List UInt8))) F s35.f10.f7.f9.f10.f4.f10.f6 rfl rfl Ad5 rfl rfl rfl (.inl rfl) (fun _ _ h => SL.Afb (n := Abc) rfl (SL.Aeh (c := 214) (d := 203) (s := 204) (t := 47) rfl h.f4.f4).f3.f3.f3) fun v2m w2u _ F s36 => gw 1 F rfl fun _ F => ⟨s36.drop.drop, ?_⟩
    refine Aew (by kernel_rfl) ?_
    refine ge 2 F rfl fun _ F => Ad4 Abj s36.drop.drop ?_
    refine hq [0] F s36.drew.drop.drop (QI.ld m0 rfl <| QI.nil) (by kernel_rfl) fun _ F => ?_
    refine Aes [0, 1, 2, 3] (fun a w_ => ∃ v2n : Value, ∃ g26 : Nat, ∃ v2o : Value, Fr a 162 [(0, jP g9), (1, jP g0), (3, jP g2), (5, jP g4), (6, jP g5), (129, v2n), (131, clo 214 [jP g26])] ∧ SL w [] w_ [Cw g2 253 [jI x2.kind, jU (x2.t.toNat : Int)], Cw g1 253 [jI x1.kind, jU (x1.t.toNat : Int)], Cw g0 253 [jI x0.kind, jU (x0.t.toNat : Int)], Cw g9 249 (List.replicate 34 .nilFunc), Cw g5 249 v2m, Sl HO v2n ([(⟨x2.kind, x2.t⟩ : BQ)] : List BQ), Sl Ty.u8 v2o ([(1 : UInt8)] : List UInt8), Cw g26 47 [v2o], Amv Abc HO 34 v2m (Avw x0 x1 x2) [[Cw g4 142 [clo 214 [jP g3]], Cw g3 47 [.slice none 0 0]], [Sl HO v0 ([(⟨x0.kind, x0.t⟩ : BQ), (⟨x0.kind, x0.t⟩ : BQ)] : List BQ)], [Cw g3 47 [.slice none 0 0]]]]) ?_ fun hD0 => ?_
    ·rintro a w_ ⟨v2n, g26, v2o, F, s37⟩
     refine ho 4 rfl (by kernel_rfl) ?_
     refine As (args := [.tmp 129, .tmp 131]) F Ae8 rfl (Adt (Ag (fO s37 m5)) rfl) rfl fun v2p w2v _ h2e F => ?_
     obtain ⟨g27, g28, rfl, h2f⟩ := h2e
     have s38 := s37.add h2f
     refine gw 1 F rfl fun _ F => ⟨s38.drop.drop.f4.drop.f4.drop.f4.drop.f4.drop.f4.drop, ?_⟩
     refine hq [5] F s38.drop.drop.f4.drop.f4.drop.f4.drop.f4.drop.f4.drop (QI.op rfl (fun _ hC => Aer (i := 27) Ad3 rfl rfl (by decide)) rfl <| QI.nil) (by kernel_rfl) fun _ F => ?_
     refine ho 6 rfl (by kernel_rfl) ?_
     refine Ad0 (nn := Abc) (T := HO) (qs := [Cw g27 224 [v2n], Sl HO v2n ([(⟨x2.kind, x2.t⟩ : BQ)] : List BQ), Cw g28 142 [clo 214 [jP g26]], Cw g26 47 [v2o], Sl Ty.u8 v2o ([(1 : UInt8)] : List UInt8)]) (q1 := []) (t := .fixed ([(⟨x2.kind, x2.t⟩ : BQ)] : List BQ) (.const ([(1 : UInt8)] : List UInt8))) F s38.f10.f7.f9.f10.f4.f10.f6 rfl rfl Ad5 rfl rfl rfl (.inl rfl) (fun _ _ h => SL.Afb (n := Abc) rfl (SL.Aeh (c := 214) (d := 203) (s := 204) (t := 47) rfl h.f4.f4).f3.f3.f3) fun v2q w2w _ F s39 => gw 1 F rfl fun _ F => ⟨s39.drop.drop, ?_⟩
     refine Aew (by kernel_rfl) ?_
     refine ge 2 F rfl fun _ F => Ad4 Abj s39.drop.drop ?_
     refine hq [0, 1] F s39.drew.drop.drop (QI.ld m0 rfl <| QI.ld m2 rfl <| QI.nil) (by kernel_rfl) fun _ F => ?_
     refine Aes [0, 1, 2, 3, 4] (fun a w_ => ∃ v2r : Value, ∃ g29 : Nat, ∃ v2s : Value, Fr a 162 [(0, jP g9), (1, jP g0), (3, jP g2), (5, jP g4), (6, jP g5), (136, v2r), (138, clo 214 [jP g29])] ∧ SL w [] w_ [Cw g2 253 [jI x2.kind, jU (x2.t.toNat : Int)], Cw g1 253 [jI x1.kind, jU (x1.t.toNat : Int)], Cw g0 253 [jI x0.kind, jU (x0.t.toNat : Int)], Cw g9 249 (List.replicate 34 .nilFunc), Cw g5 249 v2q, Sl HO v2r ([(⟨x2.kind, x2.t⟩ : BQ), (⟨x0.kind, x0.t⟩ : BQ)] : List BQ), Sl Ty.u8 v2s ([(1 : UInt8)] : List UInt8), Cw g29 47 [v2s], Amv Abc HO 34 v2q (Avq x0 x1 x2) [[Cw g4 142 [clo 214 [jP g3]], Cw g3 47 [.slice none 0 0]], [Sl HO v0 ([(⟨x0.kind, x0.t⟩ : BQ), (⟨x0.kind, x0.t⟩ : BQ)] : List BQ)], [Cw g3 47 [.slice none 0 0]]]]) ?_ fun hD0 => ?_
     ·rintro a w_ ⟨v2r, g29, v2s, F, s3a⟩
      refine ho 5 rfl (by kernel_rfl) ?_
      refine As (args := [.tmp 136, .tmp 138]) F Ae8 rfl (Adt (Ag (fO s3a m5)) rfl) rfl fun v2t w2x _ h2g F => ?_
      obtain ⟨g2a, g2b, rfl, h2h⟩ := h2g
      have s3b := s3a.add h2h
      refine gw 1 F rfl fun _ F => ⟨s3b.drop.drop.f4.drop.f4.drop.f4.drop.f4.drop.f4.drop, ?_⟩
      refine hq [6] F s3b.drop.drop.f4.drop.f4.drop.f4.drop.f4.drop.f4.drop (QI.op rfl (fun _ hC => Aer (i := 28) Ad3 rfl rfl (by decide)) rfl <| QI.nil) (by kernel_rfl) fun _ F => ?_
      refine ho 7 rfl (by kernel_rfl) ?_
      refine Ad0 (nn := Abc) (T := HO) (qs := [Cw g2a 224 [v2r], Sl HO v2r ([(⟨x2.kind, x2.t⟩ : BQ), (⟨x0.kind, x0.t⟩ : BQ)] : List BQ), Cw g2b 142 [clo 214 [jP g29]], Cw g29 47 [v2s], Sl Ty.u8 v2s ([(1 : UInt8)] : List UInt8)]) (q1 := []) (t := .fixed ([(⟨x2.kind, x2.t⟩ : BQ), (⟨x0.kind, x0.t⟩ : BQ)] : List BQ) (.const ([(1 : UInt8)] : List UInt8))) F s3b.f10.f7.f9.f10.f4.f10.f6 rfl rfl Ad5 rfl rfl rfl (.inl rfl) (fun _ _ h => SL.Afb (n := Abc) rfl (SL.Aeh (c := 214) (d := 203) (s := 204) (t := 47) rfl h.f4.f4).f3.f3.f3) fun v2u w2y _ F s3c => gw 1 F rfl fun _ F => ⟨s3c.drop.drop, ?_⟩
      refine Aew (by kernel_rfl) ?_
      refine ge 3 F rfl fun _ F => Ki F s3c m2 0 rfl fun _ F => Ki F s3c m4 0 rfl fun _ F => Ki F s3c m4 0 rfl fun _ F => ?_
      refine Ae (parts := [(0, .tmp 141), (1, .tmp 142), (2, .tmp 143)]) Adk ([(⟨x2.kind, x2.t⟩ : BQ), (⟨x0.kind, x0.t⟩ : BQ), (⟨x0.kind, x0.t⟩ : BQ)] : List BQ) F s3c Aea rfl (by decide) rfl rfl rfl (by simp [Value.cells]) rfl rfl rfl fun v2v w2z _ F s3d => ?_
      refine gx F (An A8i rfl (SL.ABp s3d m2 m0 m0 rfl)) 0 rfl rfl fun _ F => As (args := [.tmp 144, .tmp 145]) F Ae8 rfl (Adt (Ag (fO s3d m0)) rfl) rfl fun v2w w30 _ h2i F => ?_
      obtain ⟨g2c, g2d, rfl, h2j⟩ := h2i
      have s3e := s3d.add h2j
      refine gx F (Aer (i := 29) Ad3 rfl rfl (by decide)) 0 rfl rfl fun _ F => ?_
      refine Ad0 (nn := Abc) (T := HO) (qs := [Cw g2c 224 [v2v], Sl HO v2v ([(⟨x2.kind, x2.t⟩ : BQ), (⟨x0.kind, x0.t⟩ : BQ), (⟨x0.kind, x0.t⟩ : BQ)] : List BQ), Cw g2d 142 [clo 214 [jP g3]]]) (q1 := [Cw g3 47 [.slice none 0 0]]) (t := .fixed ([(⟨x2.kind, x2.t⟩ : BQ), (⟨x0.kind, x0.t⟩ : BQ), (⟨x0.kind, x0.t⟩ : BQ)] : List BQ) (.const [])) F s3e.f4.f4.f2.f4.f4 rfl rfl Ad5 rfl rfl rfl (.inr m2) (fun _ _ h => SL.Afb (n := Abc) rfl (SL.Aeh (c := 214) (d := 203) (s := 204) (t := 47) rfl (SL.Ac3 (T := Ty.u8) h).f4).f3.f3.f3) fun v2x w31 _ F s3f => gw 1 F rfl fun _ F => ?_
      have F := F.sub (m' := [(0, jP g9), (1, jP g0), (5, jP g4), (6, jP g5)]) ⟨rfl, rfl, rfl, rfl, trivial⟩
      clear F
      refine ge 3 F rfl fun _ F => gx F (Al (vs := [jI 2]) Ag5 Amk rfl (cs := [jI 2, jU 0]) (rfl)) 0 rfl rfl fun _ F => ?_
      refine Ae (parts := [(0, .tmp 148)]) Adk ([(⟨2, 0⟩ : BQ)] : List BQ) F s3f Aea rfl (by decide) rfl rfl rfl (by simp [Value.cells]) rfl rfl rfl fun v2y w32 _ F s3g => ?_
      refine As (args := [.tmp 149, .const (.bool true)]) F A4v rfl (Aut (Ag (fO s3g m0)) rfl) rfl fun v2z w33 _ h2k F => ?_
      obtain ⟨g2e, g2f, rfl, h2l⟩ := h2k
      have s3h := s3g.add h2l
      refine gx F (Aer (i := 30) Ad3 rfl rfl (by decide)) 0 rfl rfl fun _ F => ?_
      refine Ad0 (nn := Abc) (T := HO) (qs := [Cw g2f 4 [.bool true], Cw g2e 224 [v2y], Sl HO v2y ([(⟨2, 0⟩ : BQ)] : List BQ)]) (q1 := []) (t := .classed ([(⟨2, 0⟩ : BQ)] : List BQ) true) F s3h.f4.f4.f4.f4.f4 rfl rfl Ad5 rfl rfl rfl (.inl rfl) (fun _ _ h => SL.A0m (n := Abc) rfl h.f2.f2.f2) fun v30 w34 _ F s3i => gw 1 F rfl fun _ F => ?_
      have F := F.sub (m' := [(0, jP g9), (1, jP g0), (5, jP g4), (6, jP g5)]) ⟨rfl, rfl, rfl, rfl, trivial⟩
      clear F
      refine ge 3 F rfl fun _ F => gx F (Al (vs := [jI 2]) Ag5 Amk rfl (cs := [jI 2, jU 0]) (rfl)) 0 rfl rfl fun _ F => ?_
      refine Ae (parts := [(0, .tmp 152)]) Adk ([(⟨2, 0⟩ : BQ)] : List BQ) F s3i Aea rfl (by decide) rfl rfl rfl (by simp [Value.cells]) rfl rfl rfl fun v31 w35 _ F s3j => ?_
      refine As (args := [.tmp 153, .const (.bool false)]) F A4v rfl (Aut (Ag (fO s3j m0)) rfl) rfl fun v32 w36 _ h2m F => ?_
      obtain ⟨g2g, g2h, rfl, h2n⟩ := h2m
      have s3k := s3j.add h2n
      refine gx F (Aer (i := 31) Ad3 rfl rfl (by decide)) 0 rfl rfl fun _ F => ?_
      refine Ad0 (nn := Abc) (T := HO) (qs := [Cw g2h 4 [.bool false], Cw g2g 224 [v31], Sl HO v31 ([(⟨2, 0⟩ : BQ)] : List BQ)]) (q1 := []) (t := .classed ([(⟨2, 0⟩ : BQ)] : List BQ) false) F s3k.f4.f4.f4.f4.f4 rfl rfl Ad5 rfl rfl rfl (.inl rfl) (fun _ _ h => SL.A0m (n := Abc) rfl h.f2.f2.f2) fun v33 w37 _ F s3l => gw 1 F rfl fun _ F => ?_
      have F := F.sub (m' := [(0, jP g9), (1, jP g0), (5, jP g4), (6, jP g5)]) ⟨rfl, rfl, rfl, rfl, trivial⟩
      clear F
      refine ge 3 F rfl fun _ F => Ki F s3l m4 0 rfl fun _ F => ?_
      refine Ae (parts := [(0, .tmp 156)]) Adk ([(⟨x0.kind, x0.t⟩ : BQ)] : List BQ) F s3l Aea rfl (by decide) rfl rfl rfl (by simp [Value.cells]) rfl rfl rfl fun v34 w38 _ F s3m => ?_
      refine gx F (An A8i rfl (SL.ABp s3m m2 m0 m0 rfl)) 0 rfl rfl fun _ F => As (args := [.tmp 157, .tmp 158]) F Ae8 rfl (Adt (Ag (fO s3m m0)) rfl) rfl fun v35 w39 _ h2o F => ?_
      obtain ⟨g2i, g2j, rfl, h2p⟩ := h2o
      have s3n := s3m.add h2p
      refine gx F (Aer (i := 33) Ad3 rfl rfl (by decide)) 0 rfl rfl fun _ F => ?_
      refine Ad0 (nn := Abc) (T := HO) (qs := [Cw g2i 224 [v34], Sl HO v34 ([(⟨x0.kind, x0.t⟩ : BQ)] : List BQ), Cw g2j 142 [clo 214 [jP g3]]]) (q1 := [Cw g3 47 [.slice none 0 0]]) (t := .fixed ([(⟨x0.kind, x0.t⟩ : BQ)] : List BQ) (.const [])) F s3n.f4.f4.f2.f4.f4 rfl rfl Ad5 rfl rfl rfl (.inr m2) (fun _ _ h => SL.Afb (n := Abc) rfl (SL.Aeh (c := 214) (d := 203) (s := 204) (t := 47) rfl (SL.Ac3 (T := Ty.u8) h).f4).f3.f3.f3) fun v36 w3a _ F s3o => gw 1 F rfl fun _ F => ?_
      have F := F.sub (m' := [(0, jP g9), (6, jP g5)]) ⟨rfl, rfl, trivial⟩
      clear F
      refine ge 3 F rfl fun _ F => gx F (Av A8z rfl (s3o.Afh m0 (o := 0) (ds := v36) (fun j u hu => by rw [Nat.zero_add]; exact hu)) (SL.Azg s3o m1).1.1) 0 rfl rfl fun _ F => ?_
      have h2q := SL.Azg s3o m1
      refine O4 (ds := v36) F s3o.f5 rfl rfl (by rw [h2q.1.1]; exact AH2) h2q.1.2 (by rw [h2q.1.1]; rfl) fun w3b _ F s3p => ?_
      refine gw 1 F rfl fun _ F => ?_
      have F := F.sub (m' := [(0, jP g9)]) ⟨rfl, trivial⟩
      clear F
      obtain rfl := A3e H
      refine ge 2 F rfl fun _ F => ?_
      refine Ak (rs := [.cell 0 249]) (vs := [.agg ⟨v36⟩]) F (by rfl) ⟨_, _, rfl, Am s3p m0 rfl A8z (SL.Azg s3p m2).1.1, rfl⟩ ⟨_, rfl, ⟨_, rfl, (SL.Azg s3p m2).1.1, s3p.tk 0 rfl, fun k t ht => (SL.Azg s3p m2).2 k t ht⟩⟩
     refine Aes [0, 1, 2, 3] (fun a w_ => ∃ v2r : Value, ∃ v2s : Value, Fr a 162 [(0, jP g9), (1, jP g0), (3, jP g2), (5, jP g4), (6, jP g5), (136, v2r), (137, v2s)] ∧ SL w [] w_ [Cw g2 253 [jI x2.kind, jU (x2.t.toNat : Int)], Cw g1 253 [jI x1.kind, jU (x1.t.toNat : Int)], Cw g0 253 [jI x0.kind, jU (x0.t.toNat : Int)], Cw g9 249 (List.replicate 34 .nilFunc), Cw g5 249 v2q, Sl HO v2r ([(⟨x2.kind, x2.t⟩ : BQ), (⟨x0.kind, x0.t⟩ : BQ)] : List BQ), Sl Ty.u8 v2s ([(1 : UInt8)] : List UInt8), Amv Abc HO 34 v2q (Avq x0 x1 x2) [[Cw g4 142 [clo 214 [jP g3]], Cw g3 47 [.slice none 0 0]], [Sl HO v0 ([(⟨x0.kind, x0.t⟩ : BQ), (⟨x0.kind, x0.t⟩ : BQ)] : List BQ)], [Cw g3 47 [.slice none 0 0]]]]) ?_ fun hD1 => ?_
     ·rintro a w_ ⟨v2r, v2s, F, s3q⟩
      refine ho 4 rfl (by kernel_rfl) ?_
      refine As (args := [.tmp 137]) F Aey rfl (Adg (Ag (fO s3q m6))) rfl fun v37 w3c _ h2r F => ?_
      obtain ⟨g29, rfl, h2s⟩ := h2r
      have s3r := s3q.add h2s
      exact gw 1 F rfl fun _ F => ⟨s3r.drop.f4.drop.f4.drop.f4.drop.f4.drop, hto hD0 ⟨v2r, g29, v2s, F.sb, s3r.f8.f1.f8.f8.f8.f8.f8.f8.f8⟩ (by kernel_rfl)⟩
     refine ho2 2 3 rfl rfl (by kernel_rfl) ?_ ?_
     ·refine Ae (parts := [(0, .tmp 134), (1, .tmp 135)]) Adk ([(⟨x2.kind, x2.t⟩ : BQ), (⟨x0.kind, x0.t⟩ : BQ)] : List BQ) F s39.drew Aea rfl (by decide) rfl rfl rfl (by simp [Value.cells]) rfl rfl rfl fun v2r w3d _ F s3s => ?_
      refine gw 1 F rfl fun _ F => ⟨s3s.drop.drop.drop, ?_⟩
      refine ho 3 rfl (by kernel_rfl) ?_
      refine Ae (parts := [(0, .const (jU 1))]) Flat.u8 ([(1 : UInt8)] : List UInt8) F s3s Abp rfl (by decide) rfl rfl rfl (by simp [Value.cells]) rfl rfl rfl fun v2s w3e _ F s3t => ?_
      exact gw 1 F rfl fun _ F => ⟨s3t.drop.drop.drop.drop, hto hD1 ⟨v2r, v2s, F.sb, s3t.f3.f1.f2.f3.f7.f7.f7.f7⟩ (by kernel_rfl)⟩
     refine Ae (parts := [(0, .const (jU 1))]) Flat.u8 ([(1 : UInt8)] : List UInt8) F s39.drew Abp rfl (by decide) rfl rfl rfl (by simp [Value.cells]) rfl rfl rfl fun v2s w3e _ F s3t => ?_
     refine gw 1 F rfl fun _ F => ⟨s3t.drop.drop.drop, ?_⟩
     refine ho2 2 4 rfl rfl (by kernel_rfl) ?_ ?_
     ·refine Ae (parts := [(0, .tmp 134), (1, .tmp 135)]) Adk ([(⟨x2.kind, x2.t⟩ : BQ), (⟨x0.kind, x0.t⟩ : BQ)] : List BQ) F s3t Aea rfl (by decide) rfl rfl rfl (by simp [Value.cells]) rfl rfl rfl fun v2r w3d _ F s3s => ?_
      exact gw 1 F rfl fun _ F => ⟨s3s.drop.drop.drop.drop, hto hD1 ⟨v2r, v2s, F.sb, s3s.f3.f2.f2.f3.f7.f7.f7.f7⟩ (by kernel_rfl)⟩
     refine As (args := [.tmp 137]) F Aey rfl (Adg (Ag (fO s3t m0))) rfl fun v37 w3c _ h2r F => ?_
     obtain ⟨g29, rfl, h2s⟩ := h2r
     have s3r := s3t.add h2s
     refine gw 1 F rfl fun _ F => ⟨s3r.drop.drop.drop.drop, ?_⟩
     refine ho 2 rfl (by kernel_rfl) ?_
     refine Ae (parts := [(0, .tmp 134), (1, .tmp 135)]) Adk ([(⟨x2.kind, x2.t⟩ : BQ), (⟨x0.kind, x0.t⟩ : BQ)] : List BQ) F s3r Aea rfl (by decide) rfl rfl rfl (by simp [Value.cells]) rfl rfl rfl fun v2r w3d _ F s3s => ?_
     exact gw 1 F rfl fun _ F => ⟨s3s.drop.drop.drop.drop.drop, hto hD0 ⟨v2r, g29, v2s, F.sb, s3s.f4.f2.f3.f3.f4.f8.f8.f8.f8⟩ (by kernel_rfl)⟩
    refine Aes [0, 1, 2] (fun a w_ => ∃ v2n : Value, ∃ v2o : Value, Fr a 162 [(0, jP g9), (1, jP g0), (3, jP g2), (5, jP g4), (6, jP g5), (129, v2n), (130, v2o)] ∧ SL w [] w_ [Cw g2 253 [jI x2.kind, jU (x2.t.toNat : Int)], Cw g1 253 [jI x1.kind, jU (x1.t.toNat : Int)], Cw g0 253 [jI x0.kind, jU (x0.t.toNat : Int)], Cw g9 249 (List.replicate 34 .nilFunc), Cw g5 249 v2m, Sl HO v2n ([(⟨x2.kind, x2.t⟩ : BQ)] : List BQ), Sl Ty.u8 v2o ([(1 : UInt8)] : List UInt8), Amv Abc HO 34 v2m (Avw x0 x1 x2) [[Cw g4 142 [clo 214 [jP g3]], Cw g3 47 [.slice none 0 0]], [Sl HO v0 ([(⟨x0.kind, x0.t⟩ : BQ), (⟨x0.kind, x0.t⟩ : BQ)] : List BQ)], [Cw g3 47 [.slice none 0 0]]]]) ?_ fun hD1 => ?_
    ·rintro a w_ ⟨v2n, v2o, F, s3u⟩
     refine ho 3 rfl (by kernel_rfl) ?_
     refine As (args := [.tmp 130]) F Aey rfl (Adg (Ag (fO s3u m6))) rfl fun v38 w3f _ h2t F => ?_
     obtain ⟨g26, rfl, h2u⟩ := h2t
     have s3v := s3u.add h2u
     exact gw 1 F rfl fun _ F => ⟨s3v.drop.f4.drop.f4.drop.f4.drop.f4.drop, hto hD0 ⟨v2n, g26, v2o, F.sb, s3v.f8.f1.f8.f8.f8.f8.f8.f8.f8⟩ (by kernel_rfl)⟩
    refine ho2 1 2 rfl rfl (by kernel_rfl) ?_ ?_
    ·refine Ae (parts := [(0, .tmp 128)]) Adk ([(⟨x2.kind, x2.t⟩ : BQ)] : List BQ) F s36.drew Aea rfl (by decide) rfl rfl rfl (by simp [Value.cells]) rfl rfl rfl fun v2n w3g _ F s3w => ?_
     refine gw 1 F rfl fun _ F => ⟨s3w.drop.drop.drop, ?_⟩
     refine ho 2 rfl (by kernel_rfl) ?_
     refine Ae (parts := [(0, .const (jU 1))]) Flat.u8 ([(1 : UInt8)] : List UInt8) F s3w Abp rfl (by decide) rfl rfl rfl (by simp [Value.cells]) rfl rfl rfl fun v2o w3h _ F s3x => ?_
     exact gw 1 F rfl fun _ F => ⟨s3x.drop.drop.drop.drop, hto hD1 ⟨v2n, v2o, F.sb, s3x.f3.f1.f2.f3.f7.f7.f7.f7⟩ (by kernel_rfl)⟩
    refine Ae (parts := [(0, .const (jU 1))]) Flat.u8 ([(1 : UInt8)] : List UInt8) F s36.drew Abp rfl (by decide) rfl rfl rfl (by simp [Value.cells]) rfl rfl rfl fun v2o w3h _ F s3x => ?_
    refine gw 1 F rfl fun _ F => ⟨s3x.drop.drop.drop, ?_⟩
    refine ho2 1 3 rfl rfl (by kernel_rfl) ?_ ?_
    ·refine Ae (parts := [(0, .tmp 128)]) Adk ([(⟨x2.kind, x2.t⟩ : BQ)] : List BQ) F s3x Aea rfl (by decide) rfl rfl rfl (by simp [Value.cells]) rfl rfl rfl fun v2n w3g _ F s3w => ?_
     exact gw 1 F rfl fun _ F => ⟨s3w.drop.drop.drop.drop, hto hD1 ⟨v2n, v2o, F.sb, s3w.f3.f2.f2.f3.f7.f7.f7.f7⟩ (by kernel_rfl)⟩
    refine As (args := [.tmp 130]) F Aey rfl (Adg (Ag (fO s3x m0))) rfl fun v38 w3f _ h2t F => ?_
    obtain ⟨g26, rfl, h2u⟩ := h2t
    have s3v := s3x.add h2u
    refine gw 1 F rfl fun _ F => ⟨s3v.drop.drop.drop.drop, ?_⟩
    refine ho 1 rfl (by kernel_rfl) ?_
    refine Ae (parts := [(0, .tmp 128)]) Adk ([(⟨x2.kind, x2.t⟩ : BQ)] : List BQ) F s3v Aea rfl (by decide) rfl rfl rfl (by simp [Value.cells]) rfl rfl rfl fun v2n w3g _ F s3w => ?_
    exact gw 1 F rfl fun _ F => ⟨s3w.drop.drop.drop.drop.drop, hto hD0 ⟨v2n, g26, v2o, F.sb, s3w.f4.f2.f3.f3.f4.f8.f8.f8.f8⟩ (by kernel_rfl)⟩
   refine Aes [0, 1, 2] (fun a w_ => ∃ v2j : Value, ∃ v2k : Value, Fr a 162 [(0, jP g9), (1, jP g0), (3, jP g2), (5, jP g4), (6, jP g5), (123, v2j), (124, v2k)] ∧ SL w [] w_ [Cw g2 253 [jI x2.kind, jU (x2.t.toNat : Int)], Cw g1 253 [jI x1.kind, jU (x1.t.toNat : Int)], Cw g0 253 [jI x0.kind, jU (x0.t.toNat : Int)], Cw g9 249 (List.replicate 34 .nilFunc), Cw g5 249 v2i, Sl HO v2j ([(⟨x0.kind, x0.t⟩ : BQ)] : List BQ), Sl Ty.u8 v2k ([(4 : UInt8)] : List UInt8), Amv Abc HO 34 v2i (Avh x0 x1 x2) [[Cw g4 142 [clo 214 [jP g3]], Cw g3 47 [.slice none 0 0]], [Sl HO v0 ([(⟨x0.kind, x0.t⟩ : BQ), (⟨x0.kind, x0.t⟩ : BQ)] : List BQ)], [Cw g3 47 [.slice none 0 0]]]]) ?_ fun hD1 => ?_
   ·rintro a w_ ⟨v2j, v2k, F, s3y⟩
    refine ho 3 rfl (by kernel_rfl) ?_
    refine As (args := [.tmp 124]) F Aey rfl (Adg (Ag (fO s3y m6))) rfl fun v39 w3i _ h2v F => ?_
    obtain ⟨g23, rfl, h2w⟩ := h2v
    have s3z := s3y.add h2w
    exact gw 1 F rfl fun _ F => ⟨s3z.drop.f4.drop.f4.drop.f4.drop.f4.drop, hto hD0 ⟨v2j, g23, v2k, F.sb, s3z.f8.f1.f8.f8.f8.f8.f8.f8.f8⟩ (by kernel_rfl)⟩
   refine ho2 1 2 rfl rfl (by kernel_rfl) ?_ ?_
   ·refine Ae (parts := [(0, .tmp 122)]) Adk ([(⟨x0.kind, x0.t⟩ : BQ)] : List BQ) F s33.drew Aea rfl (by decide) rfl rfl rfl (by simp [Value.cells]) rfl rfl rfl fun v2j w3j _ F s40 => ?_
    refine gw 1 F rfl fun _ F => ⟨s40.drop.drop.drop, ?_⟩
    refine ho 2 rfl (by kernel_rfl) ?_
    refine Ae (parts := [(0, .const (jU 4))]) Flat.u8 ([(4 : UInt8)] : List UInt8) F s40 Abp rfl (by decide) rfl rfl rfl (by simp [Value.cells]) rfl rfl rfl fun v2k w3k _ F s41 => ?_
    exact gw 1 F rfl fun _ F => ⟨s41.drop.drop.drop.drop, hto hD1 ⟨v2j, v2k, F.sb, s41.f3.f1.f2.f3.f7.f7.f7.f7⟩ (by kernel_rfl)⟩
   refine Ae (parts := [(0, .const (jU 4))]) Flat.u8 ([(4 : UInt8)] : List UInt8) F s33.drew Abp rfl (by decide) rfl rfl rfl (by simp [Value.cells]) rfl rfl rfl fun v2k w3k _ F s41 => ?_
   refine gw 1 F rfl fun _ F => ⟨s41.drop.drop.drop, ?_⟩
   refine ho2 1 3 rfl rfl (by kernel_rfl) ?_ ?_
   ·refine Ae (parts := [(0, .tmp 122)]) Adk ([(⟨x0.kind, x0.t⟩ : BQ)] : List BQ) F s41 Aea rfl (by decide) rfl rfl rfl (by simp [Value.cells]) rfl rfl rfl fun v2j w3j _ F s40 => ?_
    exact gw 1 F rfl fun _ F => ⟨s40.drop.drop.drop.drop, hto hD1 ⟨v2j, v2k, F.sb, s40.f3.f2.f2.f3.f7.f7.f7.f7⟩ (by kernel_rfl)⟩
   refine As (args := [.tmp 124]) F Aey rfl (Adg (Ag (fO s41 m0))) rfl fun v39 w3i _ h2v F => ?_
   obtain ⟨g23, rfl, h2w⟩ := h2v
   have s3z := s41.add h2w
   refine gw 1 F rfl fun _ F => ⟨s3z.drop.drop.drop.drop, ?_⟩
   refine ho 1 rfl (by kernel_rfl) ?_
   refine Ae (parts := [(0, .tmp 122)]) Adk ([(⟨x0.kind, x0.t⟩ : BQ)] : List BQ) F s3z Aea rfl (by decide) rfl rfl rfl (by simp [Value.cells]) rfl rfl rfl fun v2j w3j _ F s40 => ?_
   exact gw 1 F rfl fun _ F => ⟨s40.drop.drop.drop.drop.drop, hto hD0 ⟨v2j, g23, v2k, F.sb, s40.f4.f2.f3.f3.f4.f8.f8.f8.f8⟩ (by kernel_rfl)⟩
  refine Aes [0, 1, 2] (fun a w_ => ∃ v1z : Value, ∃ v20 : Value, Fr a 162 [(0, jP g9), (1, jP g0), (2, jP g1), (3, jP g2), (5, jP g4), (6, jP g5), (96, v1z), (97, v20)] ∧ SL w [] w_ [Cw g4 142 [clo 214 [jP g3]], Cw g2 253 [jI x2.kind, jU (x2.t.toNat : Int)], Cw g1 253 [jI x1.kind, jU (x1.t.toNat : Int)], Cw g0 253 [jI x0.kind, jU (x0.t.toNat : Int)], Cw g9 249 (List.replicate 34 .nilFunc), Sl HO v1z ([(⟨x1.kind, x1.t⟩ : BQ)] : List BQ), Sl Ty.u8 v20 ([(2 : UInt8)] : List UInt8), Cw g5 249 v1y, Amv Abc HO 34 v1y (Avp x0 x1 x2) [[Sl HO v0 ([(⟨x0.kind, x0.t⟩ : BQ), (⟨x0.kind, x0.t⟩ : BQ)] : List BQ)], [Cw g3 47 [.slice none 0 0]]]]) ?_ fun hD1 => ?_
  ·rintro a w_ ⟨v1z, v20, F, s42⟩
   refine ho 3 rfl (by kernel_rfl) ?_
   refine As (args := [.tmp 97]) F Aey rfl (Adg (Ag (fO s42 m6))) rfl fun v3a w3l _ h2x F => ?_
   obtain ⟨g1r, rfl, h2y⟩ := h2x
   have s43 := s42.add h2y
   exact gw 1 F rfl fun _ F => ⟨s43.drop.f5.drop.f5.drop.f5.drop.f5.drop, hto hD0 ⟨v1z, g1r, v20, F.sb, s43.f9.f9.f2.f9.f9.f9.f9.f9.f9.f9⟩ (by kernel_rfl)⟩
  refine ho2 1 2 rfl rfl (by kernel_rfl) ?_ ?_
  ·refine Ae (parts := [(0, .tmp 95)]) Adk ([(⟨x1.kind, x1.t⟩ : BQ)] : List BQ) F s2j.drew Aea rfl (by decide) rfl rfl rfl (by simp [Value.cells]) rfl rfl rfl fun v1z w3m _ F s44 => ?_
   refine gw 1 F rfl fun _ F => ⟨s44.drop.drop.drop, ?_⟩
   refine ho 2 rfl (by kernel_rfl) ?_
   refine Ae (parts := [(0, .const (jU 2))]) Flat.u8 ([(2 : UInt8)] : List UInt8) F s44 Abp rfl (by decide) rfl rfl rfl (by simp [Value.cells]) rfl rfl rfl fun v20 w3n _ F s45 => ?_
   exact gw 1 F rfl fun _ F => ⟨s45.drop.drop.drop.drop, hto hD1 ⟨v1z, v20, F.sb, s45.f3.f3.f2.f3.f8.f8.f8.f8.f8⟩ (by kernel_rfl)⟩
  refine Ae (parts := [(0, .const (jU 2))]) Flat.u8 ([(2 : UInt8)] : List UInt8) F s2j.drew Abp rfl (by decide) rfl rfl rfl (by simp [Value.cells]) rfl rfl rfl fun v20 w3n _ F s45 => ?_
  refine gw 1 F rfl fun _ F => ⟨s45.drop.drop.drop, ?_⟩
  refine ho2 1 3 rfl rfl (by kernel_rfl) ?_ ?_
  ·refine Ae (parts := [(0, .tmp 95)]) Adk ([(⟨x1.kind, x1.t⟩ : BQ)] : List BQ) F s45 Aea rfl (by decide) rfl rfl rfl (by simp [Value.cells]) rfl rfl rfl fun v1z w3m _ F s44 => ?_
   exact gw 1 F rfl fun _ F => ⟨s44.drop.drop.drop.drop, hto hD1 ⟨v1z, v20, F.sb, s44.f3.f3.f3.f3.f8.f8.f8.f8.f8⟩ (by kernel_rfl)⟩
  refine As (args := [.tmp 97]) F Aey rfl (Adg (Ag (fO s45 m0))) rfl fun v3a w3l _ h2x F => ?_
  obtain ⟨g1r, rfl, h2y⟩ := h2x
  have s43 := s45.add h2y
  refine gw 1 F rfl fun _ F => ⟨s43.drop.drop.drop.drop, ?_⟩
  refine ho 1 rfl (by kernel_rfl) ?_
  refine Ae (parts := [(0, .tmp 95)]) Adk ([(⟨x1.kind, x1.t⟩ : BQ)] : List BQ) F s43 Aea rfl (by decide) rfl rfl rfl (by simp [Value.cells]) rfl rfl rfl fun v1z w3m _ F s44 => ?_
  exact gw 1 F rfl fun _ F => ⟨s44.drop.drop.drop.drop.drop, hto hD0 ⟨v1z, g1r, v20, F.sb, s44.f4.f4.f3.f4.f4.f9.f9.f9.f9.f9⟩ (by kernel_rfl)⟩
 refine Aes [0, 1, 2] (fun a w_ => ∃ v1m : Value, ∃ v1n : Value, Fr a 162 [(0, jP g9), (1, jP g0), (2, jP g1), (3, jP g2), (4, v0), (5, jP g4), (6, jP g5), (78, v1m), (79, v1n)] ∧ SL w [] w_ [Cw g12 5 [jU 9, jU 10, jU 11, jU 12, jU 13], Cw g4 142 [clo 214 [jP g3]], Cw g2 253 [jI x2.kind, jU (x2.t.toNat : Int)], Cw g1 253 [jI x1.kind, jU (x1.t.toNat : Int)], Cw g0 253 [jI x0.kind, jU (x0.t.toNat : Int)], Cw g9 249 (List.replicate 34 .nilFunc), Sl HO v1m ([(⟨x0.kind, x0.t⟩ : BQ)] : List BQ), Sl Ty.u8 v1n ([(1 : UInt8)] : List UInt8), Cw g5 249 v1l, Amv Abc HO 34 v1l (Avn x0 x1 x2) [[Sl HO v0 ([(⟨x0.kind, x0.t⟩ : BQ), (⟨x0.kind, x0.t⟩ : BQ)] : List BQ)], [Cw g3 47 [.slice none 0 0]]]]) ?_ fun hD1 => ?_
 ·rintro a w_ ⟨v1m, v1n, F, s46⟩
  refine ho 3 rfl (by kernel_rfl) ?_
  refine As (args := [.tmp 79]) F Aey rfl (Adg (Ag (fO s46 m7))) rfl fun v3b w3o _ h2z F => ?_
  obtain ⟨g1i, rfl, h30⟩ := h2z
  have s47 := s46.add h30
  exact gw 1 F rfl fun _ F => ⟨s47.drop.f6.drop.f6.drop.f6.drop.f6.drop, hto hD0 ⟨v1m, g1i, v1n, F.sb, s47.f10.f10.f2.f10.f10.f10.f10.f10.f10.f10.f10⟩ (by kernel_rfl)⟩
 refine ho2 1 2 rfl rfl (by kernel_rfl) ?_ ?_
 ·refine Ae (parts := [(0, .tmp 77)]) Adk ([(⟨x0.kind, x0.t⟩ : BQ)] : List BQ) F s27.drew Aea rfl (by decide) rfl rfl rfl (by simp [Value.cells]) rfl rfl rfl fun v1m w3p _ F s48 => ?_
  refine gw 1 F rfl fun _ F => ⟨s48.drop.drop.drop, ?_⟩
  refine ho 2 rfl (by kernel_rfl) ?_
  refine Ae (parts := [(0, .const (jU 1))]) Flat.u8 ([(1 : UInt8)] : List UInt8) F s48 Abp rfl (by decide) rfl rfl rfl (by simp [Value.cells]) rfl rfl rfl fun v1n w3q _ F s49 => ?_
  exact gw 1 F rfl fun _ F => ⟨s49.drop.drop.drop.drop, hto hD1 ⟨v1m, v1n, F.sb, s49.f3.f3.f2.f3.f9.f9.f9.f9.f9.f9⟩ (by kernel_rfl)⟩
 refine Ae (parts := [(0, .const (jU 1))]) Flat.u8 ([(1 : UInt8)] : List UInt8) F s27.drew Abp rfl (by decide) rfl rfl rfl (by simp [Value.cells]) rfl rfl rfl fun v1n w3q _ F s49 => ?_
 refine gw 1 F rfl fun _ F => ⟨s49.drop.drop.drop, ?_⟩
 refine ho2 1 3 rfl rfl (by kernel_rfl) ?_ ?_
 ·refine Ae (parts := [(0, .tmp 77)]) Adk ([(⟨x0.kind, x0.t⟩ : BQ)] : List BQ) F s49 Aea rfl (by decide) rfl rfl rfl (by simp [Value.cells]) rfl rfl rfl fun v1m w3p _ F s48 => ?_
  exact gw 1 F rfl fun _ F => ⟨s48.drop.drop.drop.drop, hto hD1 ⟨v1m, v1n, F.sb, s48.f3.f3.f3.f3.f9.f9.f9.f9.f9.f9⟩ (by kernel_rfl)⟩
 refine As (args := [.tmp 79]) F Aey rfl (Adg (Ag (fO s49 m0))) rfl fun v3b w3o _ h2z F => ?_
 obtain ⟨g1i, rfl, h30⟩ := h2z
 have s47 := s49.add h30
 refine gw 1 F rfl fun _ F => ⟨s47.drop.drop.drop.drop, ?_⟩
 refine ho 1 rfl (by kernel_rfl) ?_
 refine Ae (parts := [(0, .tmp 77)]) Adk ([(⟨x0.kind, x0.t⟩ : BQ)] : List BQ) F s47 Aea rfl (by decide) rfl rfl rfl (by simp [Value.cells]) rfl rfl rfl fun v1m w3p _ F s48 => ?_
 exact gw 1 F rfl fun _ F => ⟨s48.drop.drop.drop.drop.drop, hto hD0 ⟨v1m, g1i, v1n, F.sb, s48.f4.f4.f3.f4.f4.f10.f10.f10.f10.f10.f10⟩ (by kernel_rfl)⟩
theorem AB2 {w : World} {v0_0 v0_1 : Value} {a0 : GG} {a1 : CO} {r : Ac6 × Int} (hr0_0 : Rd Hw w [] v0_0 a0.Classes) (hr0_1 : Rd Ach w [] v0_1 a0.OS) (H : Axx a0 a1 = some r) :
    Calls prog 205 #[.agg ⟨[v0_0, v0_1, jI a0.Fn]⟩, .agg ⟨[jI a1.At, jU (a1.Op.toNat : Int), jI a1.A, jI a1.B]⟩] w (Ret fun u_ w_ => ∃ u0 u1 : Value, u_ = .tuple ⟨[.agg ⟨[u0, u1]⟩, jI r.2]⟩ ∧ SL w [] w_ [Sl HO u0 r.1.takes, Gvc 214 203 204 47 u1 r.1.gives]) := by
 have s0 : SL w [] w [] := SL.Abr w
 refine cin func205 ntmps205 2 rfl rfl rfl fun _ F0 => ?_
 unfold Axx at H
 refine Ar F0 s0 rfl rfl rfl fun g0 w0 _ F s1 => Ar F s1 rfl rfl rfl fun g1 w1 _ F s2 => Af F s2 Aeo rfl rfl fun g32 w2 _ F s3 => gw 7 F rfl fun _ F => Ki F s3 m1 2 rfl fun _ F => bsp 13 F H (fun h0 H F => ?_) (fun h0 H F => ?_)
 ·refine gw 12 F rfl fun _ F => gx F (Al (vs := []) Aeo Ai2 rfl (cs := [.slice none 0 0, .nilFunc]) (rfl)) 0 rfl rfl fun _ F => Ai F s3 rfl rfl Ahy (Ab rfl (Ab rfl Ap)) (Ac rfl) fun w3 _ F s4 => ?_
  cases H
  refine gw 5 F rfl fun _ F => ?_
  refine Ak (rs := [.cell 4 226, .tmp 5]) (vs := [.agg ⟨[.slice none 0 0, .nilFunc]⟩, jI 71]) F (by rfl) ⟨_, _, rfl, Am s4 m0 rfl Ag1 rfl, _, _, rfl, Ao rfl, rfl⟩ ⟨_, rfl, ⟨(.slice none 0 0), .nilFunc, rfl, (SL.Aum (SL.Ac3 (T := HO) s4)).f2.drop.f2.drop.f2.drop.f1⟩⟩
 refine gw 1 F rfl fun _ F => Lm F rfl rfl <| Ki F s3 m1 1 rfl fun _ F => Lm F rfl rfl <| Ki F s3 m2 0 rfl fun _ F => Lm F rfl rfl <| gx F (Ah rfl underlying108 (fR hr0_1 s3)) 4 rfl rfl fun _ F => Ll F H 2 4 rfl rfl rfl (fun h1 H _ F => ?_) (fun h1 H _ F => ?_)
 ·refine gx F (Al (vs := []) Aeo Ai2 rfl (cs := [.slice none 0 0, .nilFunc]) (rfl)) 0 rfl rfl fun _ F => Ai F s3 rfl rfl Ahy (Ab rfl (Ab rfl Ap)) (Ac rfl) fun w4 _ F s5 => ?_
  cases H
  refine gw 5 F rfl fun _ F => ?_
  refine Ak (rs := [.cell 4 226, .tmp 5]) (vs := [.agg ⟨[.slice none 0 0, .nilFunc]⟩, jI 71]) F (by rfl) ⟨_, _, rfl, Am s5 m0 rfl Ag1 rfl, _, _, rfl, Ao rfl, rfl⟩ ⟨_, rfl, ⟨(.slice none 0 0), .nilFunc, rfl, (SL.Aum (SL.Ac3 (T := HO) s5)).f2.drop.f2.drop.f2.drop.f1⟩⟩
 obtain ⟨x0, h2, H⟩ := Aa H
 obtain ⟨a2, c0, G0, h3, h4, h5, h6⟩ := Rd.idx hr0_1 Ahb rfl h2
 obtain ⟨v0, rfl, h7⟩ := (Ajk h5 h6)
 replace h4 := h4 _ _ s3
 refine gw 1 F rfl fun _ F => Ki F s3 m2 1 rfl fun _ F => Ki F s3 m1 0 rfl fun _ F => gi F h3 0 rfl fun _ F => gx F (Av Aot rfl h4 rfl) 0 rfl rfl fun _ F => Af F s3 Ars rfl rfl fun g2 w5 _ F s6 => Ai F s6 rfl rfl Awz (Ab (Aq (fR h7 s6)) (Ab rfl Ap)) (Ac rfl) fun w6 _ F s7 => gw 11 F rfl fun _ F => Ki F s7 m0 0 rfl fun _ F => ?_
 obtain ⟨o0, H0, R0⟩ := Aa H
 clear H
 refine gx F (Ah rfl underlying47 (fR h7 s7)) 3 rfl rfl fun _ F => Acs (fun a w_ => ∃ v1 : Value, Fr a 53 [(4, jP g32), (6, jP g2), (7, v1)] ∧ SL w [] w_ [Cw g2 50 [v0, jU (x0.Result.toNat : Int)], Cw g32 226 [.slice none 0 0, .nilFunc], Sl HO v1 o0]) ?_ ?_
 ·have H := H0
  refine gc 1 F rfl fun _ F => lpk (Anp x0) (fun s8 a w_ => ∃ v2 : Value, Fr a 53 [(4, jP g32), (6, jP g2), (7, v2), (29, v0), (30, jI (x0.Abs.length : Int)), (31, jI s8.2)] ∧ SL w [] w_ [Cw g2 50 [v0, jU (x0.Result.toNat : Int)], Cw g32 226 [.slice none 0 0, .nilFunc], Sl HO v2 s8.1]) H ?_ ?_
  ·exact ⟨(.slice none 0 0), F.sb, (SL.Ac3 (T := HO) s7).f3.drop.f3.drop.f2.f2⟩
  intro s8 _ w7 h8 o1 H hr
  obtain ⟨v2, F, s9⟩ := h8
  replace H : Anp x0 s8 = some o1 := H
  unfold Anp at H
  refine gc 6 F rfl fun _ F => Ll F H 6 4 rfl rfl rfl (fun h9 H _ F => ?_) (fun h9 H _ F => ?_)
  ·obtain ⟨x1, ha, H⟩ := Aa H
   obtain ⟨a3, hb, hc⟩ := Alr Flat.u8 (rdL h7 s9) Abp rfl ha
   refine gi F hb 0 rfl fun _ F => ?_
   obtain ⟨x2, hd, H⟩ := Aa H
   refine gx F (An Acy rfl (Abe.at_ hc (o := 0) rfl)) 6 rfl rfl fun _ F => gca F s9 (Apu hd) 0 rfl rfl rfl rfl fun w8 _ F sa => ?_
   refine Ae (parts := [(0, .tmp 37)]) Adk ([x2] : List BQ) F sa Aea rfl (by decide) rfl rfl rfl (by simp [Value.cells]) rfl rfl rfl fun v3 w9 _ F sc => ?_
   obtain ⟨x3, he, H⟩ := Aa H
   obtain ⟨_, hr_⟩ := (sc.f3.Ac5 m1)
   refine Aw Adk F sc.f3 Aea rfl rfl rfl rfl hr_ rfl rfl he rfl fun v4 wa _ F sd => ?_
   have s2463' := sd.f1.drop
   cases H
   exact gw 8 F rfl fun _ F => ⟨_, rfl, v4, F.sb, s2463'.f2.f2⟩
  cases H
  obtain rfl := hr _ rfl
  exact ⟨v2, F.sb, s9⟩
 intro _ wb hJ
 obtain ⟨v1, F, se⟩ := hJ
 have H := R0
 clear R0 H0
 refine ge 5 F rfl fun _ F => Ki F se m0 3 rfl fun _ F => Ll F H 3 6 rfl rfl rfl (fun hf H _ F => ?_) (fun hf H _ F => ?_)
 ·refine As (args := [.const (.slice none 0 0)]) F Aey rfl (Adg rfl) rfl fun v5 wc _ hg F => ?_
  obtain ⟨g3, hh, hi⟩ := hg
  have sf := se.add hi
  have sg := SL.Aeh (c := 214) (d := 203) (s := 204) hh ((SL.Ac3 (T := Ty.u8) sf).f1)
  have hj := (fO sg m3)
  have hk := sg.Ajx m0
  refine gx F (Al (vs := [v1, v5]) Aeo Ai2 rfl (cs := [v1, v5]) (Afm rfl (Ag hj) (by simp) <| Afm rfl (hk).1 (by simp) <| Ac1)) 0 rfl rfl fun _ F => ?_
  refine Ai F sg.f2 rfl rfl Ahy (Ab (Aq (fO sg.f2 m3)) (Ab (sg.f2.Ajx m1).2 Ap)) (Ac rfl) fun wd _ F sh => ?_
  cases H
  refine gw 5 F rfl fun _ F => ?_
  refine Ak (rs := [.cell 4 226, .tmp 5]) (vs := [.agg ⟨[v1, v5]⟩, jI 0]) F (by rfl) ⟨_, _, rfl, Am sh m0 rfl Ag1 rfl, _, _, rfl, Ao rfl, rfl⟩ ⟨_, rfl, ⟨v1, v5, rfl, sh.drop.f1.drop.f1⟩⟩
 refine Ki F se m0 0 rfl fun _ F => ?_
 refine Ae (parts := [(0, .tmp 49)]) Flat.u8 ([x0.Result] : List UInt8) F se Abp rfl (by decide) rfl rfl rfl (by simp [Value.cells]) rfl rfl rfl fun v6 we _ F si => ?_
 refine As (args := [.tmp 50]) F Aey rfl (Adg (Ag (fO si m0))) rfl fun v7 wf _ hl F => ?_
 obtain ⟨g4, hm, hn⟩ := hl
 have sj := si.add hn
 have sk := SL.Aeh (c := 214) (d := 203) (s := 204) hm sj.f1.f1
 have ho := (fO sk m3)
 have hp := sk.Ajx m0
 refine gx F (Al (vs := [v1, v7]) Aeo Ai2 rfl (cs := [v1, v7]) (Afm rfl (Ag ho) (by simp) <| Afm rfl (hp).1 (by simp) <| Ac1)) 0 rfl rfl fun _ F => ?_
 refine Ai F sk.f2 rfl rfl Ahy (Ab (Aq (fO sk.f2 m3)) (Ab (sk.f2.Ajx m1).2 Ap)) (Ac rfl) fun wg _ F sl => ?_
 cases H
 refine gw 4 F rfl fun _ F => ?_
 refine Ak (rs := [.cell 4 226, .tmp 5]) (vs := [.agg ⟨[v1, v7]⟩, jI 0]) F (by rfl) ⟨_, _, rfl, Am sl m0 rfl Ag1 rfl, _, _, rfl, Ao rfl, rfl⟩ ⟨_, rfl, ⟨v1, v7, rfl, sl.drop.f1.drop.f1⟩⟩
theorem A69 {w : World} {a0 : UInt8} {r : (List BQ)} (H : Aue a0 = some r) :
    Calls prog 207 #[jU (a0.toNat : Int)] w (Ret fun u_ w_ => ∃ u0 : Value, u_ = u0 ∧ SL w [] w_ [Sl HO u0 r]) := by
 have s0 : SL w [] w [] := SL.Abr w
 refine cin func207 ntmps207 12 rfl rfl rfl fun _ F => ?_
 unfold Aue at H
 refine Ll F H 7 5 rfl rfl rfl (fun h0 H _ F => ?_) (fun h0 H _ F => ?_)
 ·cases H
  exact rt F ⟨(.slice none 0 0), rfl, (SL.Ac3 (T := HO) s0)⟩
 obtain ⟨x0, h1, H⟩ := Aa H
 refine gca F s0 (Apu h1) 0 rfl rfl rfl rfl fun w0 _ F s1 => ?_
 refine Ae (parts := [(0, .tmp 6)]) Adk ([x0] : List BQ) F s1 Aea rfl (by decide) rfl rfl rfl (by simp [Value.cells]) rfl rfl rfl fun v0 w1 _ F s2 => ?_
 cases H
 exact gw 4 F rfl fun _ F => rt F ⟨v0, rfl, s2⟩
theorem A4k {w : World} {FF : List Nat} {g2 : Nat} {v0_0 v0_1 v2_0 : Value} {a0 : GG} {a1 : CO} {a2 : Gv} {r : Ac6 × Int} (hst : Acd [Cw g2 142 [v2_0], Gvc 214 203 204 47 v2_0 a2] w FF) (hr0_0 : Rd Hw w FF v0_0 a0.Classes) (hr0_1 : Rd Ach w FF v0_1 a0.OS) (H : Asd a0 a1 a2 = some r) :
    Calls prog 206 #[.agg ⟨[v0_0, v0_1, jI a0.Fn]⟩, .agg ⟨[jI a1.At, jU (a1.Op.toNat : Int), jI a1.A, jI a1.B]⟩, jP g2] w (Ret fun u_ w_ => ∃ u0 u1 : Value, u_ = .tuple ⟨[.agg ⟨[u0, u1]⟩, jI r.2]⟩ ∧ SL w FF w_ [Sl HO u0 r.1.takes, Gvc 214 203 204 47 u1 r.1.gives]) := by
 have s0 : SL w FF w [Cw g2 142 [v2_0], Gvc 214 203 204 47 v2_0 a2] := SL.init w FF hst
 refine cin func206 ntmps206 2 rfl rfl rfl fun _ F0 => ?_
 unfold Asd at H
 refine Ar F0 s0 rfl rfl rfl fun g0 w0 _ F s1 => Ar F s1 rfl rfl rfl fun g1 w1 _ F s2 => Af F s2 Aeo rfl rfl fun g32 w2 _ F s3 => ?_
 obtain ⟨x0, h0, H⟩ := Aa H
 obtain ⟨x1, h1, H⟩ := Aa H
 refine gw 4 F rfl fun _ F => Ad4 Abj s3.drop ?_
 obtain ⟨a3, c0, G0, h2, h3, h4, h5⟩ := Rd.idx hr0_1 Ahb rfl h0
 obtain ⟨v0, rfl, h6⟩ := (Ajk h4 h5)
 have hc159_ := h3; clear h3; have h3 := fun w_ (hC : SL w FF w_ [Cw g1 79 [jI a1.At, jU (a1.Op.toNat : Int), jI a1.A, jI a1.B], Cw g0 110 [v0_0, v0_1, jI a0.Fn], Cw g2 142 [v2_0], Gvc 214 203 204 47 v2_0 a2]) => hc159_ _ _ hC
 refine hq [0, 1, 2, 3, 4, 5, 6, 8] F s3.drew.drop (QI.ev 1 rfl <| QI.ld m1 rfl <| QI.ev 1 rfl <| QI.ld m1 rfl <| QI.ix h2 rfl <| QI.op rfl (fun _ hC => Ba A1g rfl) rfl <| QI.op rfl (fun _ hC => An Acy rfl (Abe.at_ (h3 _ hC) (o := 1) rfl)) rfl <| QI.ld m2 rfl <| QI.nil) (by kernel_rfl) fun _ F => ?_
 refine ho 7 rfl (by kernel_rfl) ?_
 refine std F (A69 h1) fun v1 w3 _ h7 F => ?_
 obtain ⟨_, rfl, h8⟩ := h7
 have s4 := s3.drew.add h8
 refine gw 1 F rfl fun _ F => ⟨s4.drop.drop, ?_⟩
 refine ho 9 rfl (by kernel_rfl) ?_
 have h9 := (fO s4 m0)
 have ha := s4.Ajx m5
 refine gx F (Al (vs := [v1, v2_0]) Aeo Ai2 rfl (cs := [v1, v2_0]) (Afm rfl (Ag h9) (by simp) <| Afm rfl (ha).1 (by simp) <| Ac1)) 1 rfl rfl fun _ F => ?_
 refine ⟨s4.drop.drop, ?_⟩
 refine ho 10 rfl (by kernel_rfl) ?_
 refine Ai F s4.f1 rfl rfl Ahy (Ab (Aq (fO s4.f1 m1)) (Ab (s4.f1.Ajx m5).2 Ap)) (Ac rfl) fun w4 _ F s5 => gw 1 F rfl fun _ F => ⟨s5.drop.drop, ?_⟩
 refine hq [11] F s5.drop.drop (QI.ev 1 rfl <| QI.nil) (by kernel_rfl) fun _ F => ?_
 refine Aew (by kernel_rfl) ?_
 cases H
 refine ge 2 F rfl fun _ F => ?_
 refine Ak (rs := [.cell 5 226, .tmp 6]) (vs := [.agg ⟨[v1, v2_0]⟩, jI 0]) F (by rfl) ⟨_, _, rfl, Am s5 m0 rfl Ag1 rfl, _, _, rfl, Ao rfl, rfl⟩ ⟨_, rfl, ⟨v1, v2_0, rfl, s5.drop.f1.drop.f1.drop.f1.drop⟩⟩
theorem A4f {w : World} {FF : List Nat} {g2 g3 : Nat} {v0_0 v0_1 v2_0 v3_0 : Value} {a0 : GG} {a1 : CO} {a2 : List BQ} {a3 : Gv} {r : Ac6 × Int} (hst : Acd [Cw g2 224 [v2_0], Sl HO v2_0 a2, Cw g3 142 [v3_0], Gvc 214 203 204 47 v3_0 a3] w FF) (hr0_0 : Rd Hw w FF v0_0 a0.Classes) (hr0_1 : Rd Ach w FF v0_1 a0.OS) (H : Asb a0 a1 a2 a3 = some r) :
    Calls prog 215 #[.agg ⟨[v0_0, v0_1, jI a0.Fn]⟩, .agg ⟨[jI a1.At, jU (a1.Op.toNat : Int), jI a1.A, jI a1.B]⟩, jP g2, jP g3] w (Ret fun u_ w_ => ∃ u0 u1 : Value, u_ = .tuple ⟨[.agg ⟨[u0, u1]⟩, jI r.2]⟩ ∧ SL w FF w_ [Sl HO u0 r.1.takes, Gvc 214 203 204 47 u1 r.1.gives]) := by
 have s0 : SL w FF w [Cw g2 224 [v2_0], Sl HO v2_0 a2, Cw g3 142 [v3_0], Gvc 214 203 204 47 v3_0 a3] := SL.init w FF hst
 refine cin func215 ntmps215 2 rfl rfl rfl fun _ F0 => ?_
 unfold Asb at H
 refine Ar F0 s0 rfl rfl rfl fun g0 w0 _ F s1 => Ar F s1 rfl rfl rfl fun g1 w1 _ F s2 => Af F s2 Aeo rfl rfl fun g32 w2 _ F s3 => ?_
 have h0 := (fO s3 m4)
 have h1 := s3.Ajx m6
 refine gw 5 F rfl fun _ F => Ki F s3 m3 0 rfl fun _ F => Ki F s3 m5 0 rfl fun _ F => ?_
 refine gx F (Al (vs := [v2_0, v3_0]) Aeo Ai2 rfl (cs := [v2_0, v3_0]) (Afm rfl (Ag h0) (by simp) <| Afm rfl (h1).1 (by simp) <| Ac1)) 0 rfl rfl fun _ F => ?_
 refine Ai F s3 rfl rfl Ahy (Ab (Aq (fO s3 m4)) (Ab (s3.Ajx m6).2 Ap)) (Ac rfl) fun w3 _ F s4 => ?_
 cases H
 refine gw 4 F rfl fun _ F => ?_
 refine Ak (rs := [.cell 6 226, .tmp 7]) (vs := [.agg ⟨[v2_0, v3_0]⟩, jI 0]) F (by rfl) ⟨_, _, rfl, Am s4 m0 rfl Ag1 rfl, _, _, rfl, Ao rfl, rfl⟩ ⟨_, rfl, ⟨v2_0, v3_0, rfl, s4.drop.drop.drop.drop.f1.drop⟩⟩
theorem Axo {w : World} {a0 : Int} {r : UInt8} (H : Atu a0 = some r) :
    Calls prog 217 #[jI a0] w (Ret fun u_ w_ => u_ = jU (r.toNat : Int) ∧ SL w [] w_ []) := by
 have s0 : SL w [] w [] := SL.Abr w
 refine cin func217 ntmps217 8 rfl rfl rfl fun _ F7 => ?_
 unfold Atu at H
 refine gx F7 (A05 rfl underlying3 underlying48) 0 rfl rfl fun _ F8 => ?_
 cases H
 exact gx F8 (A3c rfl rfl) 4 rfl rfl fun _ F => rt F ⟨rfl, s0⟩
theorem A2e {w : World} {FF : List Nat} {g2 g3 : Nat} {v0_0 v0_1 v3_0 : Value} {a0 : GG} {a1 : CO} {a2 : Bool} {a3 : List BQ} {r : Ac6 × Int} (hst : Acd [Cw g2 4 [.bool a2], Cw g3 224 [v3_0], Sl HO v3_0 a3] w FF) (hr0_0 : Rd Hw w FF v0_0 a0.Classes) (hr0_1 : Rd Ach w FF v0_1 a0.OS) (H : Anh a0 a1 a2 a3 = some r) :
    Calls prog 216 #[.agg ⟨[v0_0, v0_1, jI a0.Fn]⟩, .agg ⟨[jI a1.At, jU (a1.Op.toNat : Int), jI a1.A, jI a1.B]⟩, jP g2, jP g3] w (Ret fun u_ w_ => ∃ u0 u1 : Value, u_ = .tuple ⟨[.agg ⟨[u0, u1]⟩, jI r.2]⟩ ∧ SL w FF w_ [Sl HO u0 r.1.takes, Gvc 214 203 204 47 u1 r.1.gives]) := by
 have s0 : SL w FF w [Cw g2 4 [.bool a2], Cw g3 224 [v3_0], Sl HO v3_0 a3] := SL.init w FF hst
 refine cin func216 ntmps216 2 rfl rfl rfl fun _ F0 => ?_
 unfold Anh at H
 refine Ar F0 s0 rfl rfl rfl fun g0 w0 _ F s1 => Ar F s1 rfl rfl rfl fun g1 w1 _ F s2 => Af F s2 Aeo rfl rfl fun g32 w2 _ F s3 => gw 7 F rfl fun _ F => Ki F s3 m1 2 rfl fun _ F => bsp 11 F H (fun h0 H F => ?_) (fun h0 H F => ?_)
 ·refine gw 12 F rfl fun _ F => gx F (Al (vs := []) Aeo Ai2 rfl (cs := [.slice none 0 0, .nilFunc]) (rfl)) 0 rfl rfl fun _ F => Ai F s3 rfl rfl Ahy (Ab rfl (Ab rfl Ap)) (Ac rfl) fun w3 _ F s4 => ?_
  cases H
  refine gw 5 F rfl fun _ F => ?_
  refine Ak (rs := [.cell 6 226, .tmp 7]) (vs := [.agg ⟨[.slice none 0 0, .nilFunc]⟩, jI 72]) F (by rfl) ⟨_, _, rfl, Am s4 m0 rfl Ag1 rfl, _, _, rfl, Ao rfl, rfl⟩ ⟨_, rfl, ⟨(.slice none 0 0), .nilFunc, rfl, (SL.Aum (SL.Ac3 (T := HO) s4)).f2.drop.f2.drop.f2.drop.f2.drop.f2.drop.f2.drop.f1⟩⟩
 refine gw 1 F rfl fun _ F => Lm F rfl rfl <| Ki F s3 m1 1 rfl fun _ F => Lm F rfl rfl <| Ki F s3 m2 0 rfl fun _ F => Lm F rfl rfl <| gx F (Ah rfl underlying22 (fR hr0_0 s3)) 4 rfl rfl fun _ F => Ll F H 2 5 rfl rfl rfl (fun h1 H _ F => ?_) (fun h1 H _ F => ?_)
 ·refine gx F (Al (vs := []) Aeo Ai2 rfl (cs := [.slice none 0 0, .nilFunc]) (rfl)) 0 rfl rfl fun _ F => Ai F s3 rfl rfl Ahy (Ab rfl (Ab rfl Ap)) (Ac rfl) fun w4 _ F s5 => ?_
  cases H
  refine gw 5 F rfl fun _ F => ?_
  refine Ak (rs := [.cell 6 226, .tmp 7]) (vs := [.agg ⟨[.slice none 0 0, .nilFunc]⟩, jI 72]) F (by rfl) ⟨_, _, rfl, Am s5 m0 rfl Ag1 rfl, _, _, rfl, Ao rfl, rfl⟩ ⟨_, rfl, ⟨(.slice none 0 0), .nilFunc, rfl, (SL.Aum (SL.Ac3 (T := HO) s5)).f2.drop.f2.drop.f2.drop.f2.drop.f2.drop.f2.drop.f1⟩⟩
 refine Ki F s3 m3 3 rfl fun _ F => Ll F H 1 3 rfl rfl rfl (fun h2 H _ F => ?_) (fun h2 H _ F => ?_)
 ·refine Ad4 Abj s3.drop ?_
  refine hq [0] F s3.drew.drop (QI.ld m3 rfl <| QI.nil) (by kernel_rfl) fun _ F => ?_
  refine ho 1 rfl (by kernel_rfl) ?_
  refine Ae (parts := [(0, .const (jU 2))]) Flat.u8 ([(2 : UInt8)] : List UInt8) F s3.drew Abp rfl (by decide) rfl rfl rfl (by simp [Value.cells]) rfl rfl rfl fun v0 w5 _ F s6 => ?_
  refine gw 1 F rfl fun _ F => ⟨s6.drop.drop, ?_⟩
  refine ho 2 rfl (by kernel_rfl) ?_
  refine As (args := [.tmp 23]) F Aey rfl (Adg (Ag (fO s6 m0))) rfl fun v1 w6 _ h3 F => ?_
  obtain ⟨g4, h4, h5⟩ := h3
  have s7 := s6.add h5
  have s8 := SL.Aeh (c := 214) (d := 203) (s := 204) h4 s7.f1.f1
  refine gw 1 F rfl fun _ F => ⟨s8.drop.drop, ?_⟩
  refine ho 3 rfl (by kernel_rfl) ?_
  have h6 := (fO s8 m6)
  have h7 := s8.Ajx m0
  refine gx F (Al (vs := [v3_0, v1]) Aeo Ai2 rfl (cs := [v3_0, v1]) (Afm rfl (Ag h6) (by simp) <| Afm rfl (h7).1 (by simp) <| Ac1)) 1 rfl rfl fun _ F => ?_
  refine ⟨s8.drop.drop, ?_⟩
  refine ho 4 rfl (by kernel_rfl) ?_
  refine Ai F s8.f1 rfl rfl Ahy (Ab (Aq (fO s8.f1 m6)) (Ab (s8.f1.Ajx m1).2 Ap)) (Ac rfl) fun w7 _ F s9 => gw 1 F rfl fun _ F => ⟨s9.drop.drop, ?_⟩
  refine hq [5] F s9.drop.drop (QI.ev 1 rfl <| QI.nil) (by kernel_rfl) fun _ F => ?_
  refine Aew (by kernel_rfl) ?_
  cases H
  refine ge 3 F rfl fun _ F => ?_
  refine Ak (rs := [.cell 6 226, .tmp 7]) (vs := [.agg ⟨[v3_0, v1]⟩, jI 0]) F (by rfl) ⟨_, _, rfl, Am s9 m0 rfl Ag1 rfl, _, _, rfl, Ao rfl, rfl⟩ ⟨_, rfl, ⟨v3_0, v1, rfl, s9.drop.f1.drop.f1.drop.f1.drop.f1.drop.f1⟩⟩
 obtain ⟨x0, h8, H⟩ := Aa H
 refine Ad4 Abj s3.drop ?_
 refine hq [0, 1, 2] F s3.drew.drop (QI.ld m3 rfl <| QI.ev 1 rfl <| QI.ld m0 rfl <| QI.nil) (by kernel_rfl) fun _ F => ?_
 refine ho 3 rfl (by kernel_rfl) ?_
 refine gca F s3.drew (Axo h8) 1 rfl rfl rfl rfl fun w8 _ F sa => ⟨sa.drop, ?_⟩
 refine ho 4 rfl (by kernel_rfl) ?_
 refine Ae (parts := [(0, .tmp 29)]) Flat.u8 ([x0] : List UInt8) F sa Abp rfl (by decide) rfl rfl rfl (by simp [Value.cells]) rfl rfl rfl fun v2 w9 _ F sb => ?_
 refine gw 1 F rfl fun _ F => ⟨sb.drop.drop, ?_⟩
 refine ho 5 rfl (by kernel_rfl) ?_
 refine As (args := [.tmp 30]) F Aey rfl (Adg (Ag (fO sb m0))) rfl fun v3 wa _ h9 F => ?_
 obtain ⟨g5, ha, hb⟩ := h9
 have sc := sb.add hb
 have sd := SL.Aeh (c := 214) (d := 203) (s := 204) ha sc.f1.f1
 refine gw 1 F rfl fun _ F => ⟨sd.drop.drop, ?_⟩
 refine ho 6 rfl (by kernel_rfl) ?_
 have hc := (fO sd m6)
 have hd := sd.Ajx m0
 refine gx F (Al (vs := [v3_0, v3]) Aeo Ai2 rfl (cs := [v3_0, v3]) (Afm rfl (Ag hc) (by simp) <| Afm rfl (hd).1 (by simp) <| Ac1)) 1 rfl rfl fun _ F => ?_
 refine ⟨sd.drop.drop, ?_⟩
 refine ho 7 rfl (by kernel_rfl) ?_
 refine Ai F sd.f1 rfl rfl Ahy (Ab (Aq (fO sd.f1 m6)) (Ab (sd.f1.Ajx m1).2 Ap)) (Ac rfl) fun wb _ F se => gw 1 F rfl fun _ F => ⟨se.drop.drop, ?_⟩
 refine hq [8] F se.drop.drop (QI.ev 1 rfl <| QI.nil) (by kernel_rfl) fun _ F => ?_
 refine Aew (by kernel_rfl) ?_
 cases H
 refine ge 2 F rfl fun _ F => ?_
 refine Ak (rs := [.cell 6 226, .tmp 7]) (vs := [.agg ⟨[v3_0, v3]⟩, jI 0]) F (by rfl) ⟨_, _, rfl, Am se m0 rfl Ag1 rfl, _, _, rfl, Ao rfl, rfl⟩ ⟨_, rfl, ⟨v3_0, v3, rfl, se.drop.f1.drop.f1.drop.f1.drop.f1.drop.f1⟩⟩
theorem A1x {w : World} {FF : List Nat} {g1 : Nat} {v1_0 : Value} {a0 : Int} {a1 : List Int} {r : Bool × (List Int)} (hst : Acd [Cw g1 28 [v1_0], Sl (Ty.int .i64) v1_0 a1] w FF) (H : Ap5 a0 a1 = some r) :
    Calls prog 100 #[jI a0, jP g1] w (Ret fun u_ w_ => ∃ u0 : Value, u_ = .bool r.1 ∧ SL w FF w_ [Cw g1 28 [u0], Sl (Ty.int .i64) u0 r.2]) := by
 have s0 : SL w FF w [Cw g1 28 [v1_0], Sl (Ty.int .i64) v1_0 a1] := SL.init w FF hst
 refine cin func100 ntmps100 7 rfl rfl rfl fun _ F2 => ?_
 unfold Ap5 at H
 refine Ki F2 s0 m0 1 rfl fun _ F => ?_
 refine Ae (parts := [(0, .tmp 5)]) (Flat.int .i64) ([a0] : List Int) F s0 Abt rfl (by decide) rfl rfl rfl (by simp [Value.cells]) rfl rfl rfl fun v0 w0 _ F s1 => ?_
 obtain ⟨x0, h0, H⟩ := Aa H
 obtain ⟨_, hr_⟩ := (s1.f2.Ac5 m1)
 refine Aw (Flat.int .i64) F s1.f2 Abt rfl rfl rfl rfl hr_ rfl rfl h0 rfl fun v1 w1 _ F s2 => ?_
 have s38' := s2.f1.drop
 have s3 := s38'.f1
 refine Ay F s3 rfl rfl AK8 (Ag (fO s3 m1)) (Aq (fO s3 m1)) rfl fun w2 _ F s4 => ?_
 cases H
 exact gw 8 F rfl fun _ F => rt F ⟨v1, rfl, s4⟩
theorem Awo {w : World} {FF : List Nat} {g0 : Nat} {v0 v300_0 : Value} {a0 : List BV} {a1 : Int} {a300 : List Int} {r : (List Int)} (hst : Acd [Cw g0 28 [v300_0], Sl (Ty.int .i64) v300_0 a300] w FF) (hr0 : Rd Hw w FF v0 a0) (H : Aht a0 a1 a300 = some r) :
    Calls prog 99 #[v0, jI a1, clo 100 [jP g0]] w (Ret fun u_ w_ => ∃ u0 : Value, u_ = .tuple ⟨[]⟩ ∧ SL w FF w_ [Cw g0 28 [u0], Sl (Ty.int .i64) u0 r]) := by
 have s0 : SL w FF w [Cw g0 28 [v300_0], Sl (Ty.int .i64) v300_0 a300] := SL.init w FF hst
 refine cin func99 ntmps99 0 rfl rfl rfl fun _ F0 => ?_
 unfold Aht at H
 obtain ⟨o0, H0, R0⟩ := Aa H
 clear H
 refine Acs (fun a w_ => ∃ p0 : (List Int), o0 = .inr (p0) ∧ ∃ v1 : Value, Fr a 29 [] ∧ SL w FF w_ [Cw g0 28 [v1], Sl (Ty.int .i64) v1 p0]) ?_ ?_
 ·have H := H0
  refine gc 1 F0 rfl fun _ F0 => lpk (Aej a0) (fun s1 a w_ => ∃ v2 : Value, Fr a 29 [(0, v0), (1, jI s1.2), (2, clo 100 [jP g0])] ∧ SL w FF w_ [Cw g0 28 [v2], Sl (Ty.int .i64) v2 s1.1]) H ?_ ?_
  ·exact ⟨v300_0, F0.sb, s0⟩
  intro s1 _ w0 h0 o1 H hr
  obtain ⟨v2, F, s2⟩ := h0
  replace H : Aej a0 s1 = some o1 := H
  unfold Aej at H
  refine gc 6 F rfl fun _ F => bsp 9 F H (fun h1 H F => ?_) (fun h1 H F => ?_)
  ·refine gw 2 F rfl fun _ F => Lm F rfl rfl <| gx F (Ah rfl underlying22 (fR hr0 s2)) 3 rfl rfl fun _ F => bsp 15 F H (fun h2 H F => ?_) (fun h2 H F => ?_)
   ·obtain ⟨x0, h3, H⟩ := Aa H
    refine gw 2 F rfl fun _ F => Lm F rfl rfl ?_
    obtain ⟨G0, h4, h5, h6, h7⟩ := SL.open_ (ps := [Cw g0 28 [v2], Sl (Ty.int .i64) v2 s1.1]) (rest := []) s2.f1.f1
    refine Aky (args := [.tmp 17]) F AHw rfl rfl (A1x (a0 := s1.2) (a1 := s1.1) h4 h3) rfl fun v3 w1 _ h8 F => ?_
    obtain ⟨v4, rfl, h9⟩ := h8
    have s3 := h7 _ _ h9
    refine gw 3 F rfl fun _ F => Ll F H 5 4 rfl rfl rfl (fun ha H _ F => ?_) (fun ha H _ F => ?_)
    ·obtain ⟨x1, hb, H⟩ := Aa H
     obtain ⟨a2, c0, G1, hc, hd, he, hf⟩ := Rd.idx hr0 Af2 rfl hb
     obtain ⟨v5, rfl, hg⟩ := (Ael he hf)
     replace hd := hd _ _ s3
     refine gw 2 F rfl fun _ F => gi F hc 0 rfl fun _ F => gx F (Ba Aln rfl) 0 rfl rfl fun _ F => gx F (An Acx rfl (Abe.at_ hd (o := 1) rfl)) 11 rfl rfl fun _ F => Ll F H 6 7 rfl rfl rfl (fun hh H _ F => ?_) (fun hh H _ F => ?_)
     ·cases H
      obtain rfl := hr _ rfl
      replace H := R0
      try dsimp only at H
      cases H
      exact rt F ⟨v4, rfl, s3⟩
     cases H
     exact ⟨_, rfl, v4, F.sb, s3⟩
    cases H
    obtain rfl := hr _ rfl
    exact ⟨_, rfl, v4, F.sb, s3⟩
   cases H
   obtain rfl := hr _ rfl
   exact gw 11 F rfl fun _ F => ⟨_, rfl, v2, F.sb, s2⟩
  cases H
  obtain rfl := hr _ rfl
  exact gw 17 F rfl fun _ F => ⟨_, rfl, v2, F.sb, s2⟩
 intro _ w2 hJ
 obtain ⟨p0, rfl, v1, F, s4⟩ := hJ
 have H := R0
 clear R0 H0
 try dsimp only at H
 cases H
 exact A24 F (by rfl) ⟨_, rfl, ⟨v1, rfl, s4⟩⟩
theorem A62 {w : World} {v0 : Value} {a0 : List BV} {a1 : Int} {r : (List Acg)} (hr0 : Rd Hw w [] v0 a0) (H : Alq a0 a1 = some r) :
    Calls prog 67 #[v0, jI a1] w (Ret fun u_ w_ => ∃ u0 : Value, u_ = u0 ∧ SL w [] w_ [Sl Ad8 u0 r]) := by
 have s0 : SL w [] w [] := SL.Abr w
 refine cin func67 ntmps67 7 rfl rfl rfl fun _ F2 => ?_
 unfold Alq at H
 refine Af F2 s0 AGc rfl rfl fun g9 w0 _ F s1 => ?_
 obtain ⟨x0, h0, H⟩ := Aa H
 refine gw 6 F rfl fun _ F => gx F (Ajn (cs := [.tmp 5]) (vs := [jP g9]) rfl) 0 rfl rfl fun _ F => ?_
 have s2 := (SL.Ac3 (T := (Ty.int .i64)) s1).f1
 obtain ⟨G0, h1, h2, h3, h4⟩ := SL.open_ (ps := [Cw g9 28 [.slice none 0 0], Sl (Ty.int .i64) (.slice none 0 0) []]) (rest := []) s2
 refine std F (Awo (a300 := []) h1 (hr0.pass s2 h2) h0) fun v1 w1 _ h5 F => ?_
 obtain ⟨v2, rfl, h6⟩ := h5
 have s3 := h4 _ _ h6
 refine gw 10 F rfl fun _ F => Ki F s3 m0 0 rfl fun _ F => ?_
 obtain ⟨o0, H0, R0⟩ := Aa H
 clear H
 refine gx F (Ah rfl underlying28 (fO s3 m1)) 4 rfl rfl fun _ F => Acs (fun a w_ => ∃ v3 : Value, Fr a 30 [(6, v3)] ∧ SL w [] w_ [Sl (Ty.int .i64) v2 x0, Sl Ad8 v3 o0]) ?_ ?_
 ·have H := H0
  refine gc 1 F rfl fun _ F => lpk (Ahl a0 x0) (fun s4 a w_ => ∃ v4 : Value, Fr a 30 [(0, v0), (5, jP g9), (6, v4), (7, jI s4.2)] ∧ SL w [] w_ [Cw g9 28 [v2], Sl (Ty.int .i64) v2 x0, Sl Ad8 v4 s4.1]) H ?_ ?_
  ·exact ⟨(.slice none 0 0), F.sb, (SL.Ac3 (T := Ad8) s3).f2.f2⟩
  intro s4 _ w2 h7 o1 H hr
  obtain ⟨v4, F, s5⟩ := h7
  replace H : Ahl a0 x0 s4 = some o1 := H
  unfold Ahl at H
  refine gc 7 F rfl fun _ F => Ll F H 5 4 rfl rfl rfl (fun h8 H _ F => ?_) (fun h8 H _ F => ?_)
  ·obtain ⟨x1, h9, H⟩ := Aa H
   obtain ⟨a2, ha, hb⟩ := Ax (Flat.int .i64) s5 m1 Abt rfl h9
   obtain ⟨x2, hc, H⟩ := Aa H
   obtain ⟨a3, c0, G1, hd, he, hf, hg⟩ := Rd.idx hr0 Af2 rfl hc
   obtain ⟨v5, rfl, hh⟩ := (Ael hf hg)
   replace he := he _ _ s5
   obtain ⟨x3, hi, H⟩ := Aa H
   refine gw 2 F rfl fun _ F => Ki F s5 m0 1 rfl fun _ F => gi F ha 0 rfl fun _ F => gx F (An Acx rfl (Abe.at_ (SL.Aef (Flat.int .i64) s5 m1 hb h9) (o := 0) rfl)) 0 rfl rfl fun _ F => gi F hd 0 rfl fun _ F => gx F (Ba Ap4 rfl) 0 rfl rfl fun _ F => gx F (An Arj rfl (Abe.at_ he (o := 2) rfl)) 0 rfl rfl fun _ F => ?_
   obtain ⟨_, hr_⟩ := (rdL hh s5.f2)
   refine Aw Agh F s5.f2 Aks rfl rfl rfl rfl hr_ rfl rfl hi rfl fun v6 w3 _ F s6 => ?_
   cases H
   exact gw 9 F rfl fun _ F => ⟨_, rfl, v6, F.sb, s6.f2.f2⟩
  cases H
  obtain rfl := hr _ rfl
  exact ⟨v4, F.sb, s5.drop⟩
 intro _ w4 hJ
 obtain ⟨v3, F, s7⟩ := hJ
 have H := R0
 clear R0 H0
 cases H
 exact ge 8 F rfl fun _ F => rt F ⟨v3, rfl, s7.drop⟩
theorem A4h {w : World} {FF : List Nat} {g2 : Nat} {v0_0 v0_1 : Value} {a0 : GG} {a1 : CO} {a2 : Bool} {r : Ac6 × Int} (hst : Acd [Cw g2 4 [.bool a2]] w FF) (hr0_0 : Rd Hw w FF v0_0 a0.Classes) (hr0_1 : Rd Ach w FF v0_1 a0.OS) (H : Ar6 a0 a1 a2 = some r) :
    Calls prog 218 #[.agg ⟨[v0_0, v0_1, jI a0.Fn]⟩, .agg ⟨[jI a1.At, jU (a1.Op.toNat : Int), jI a1.A, jI a1.B]⟩, jP g2] w (Ret fun u_ w_ => ∃ u0 u1 : Value, u_ = .tuple ⟨[.agg ⟨[u0, u1]⟩, jI r.2]⟩ ∧ SL w FF w_ [Sl HO u0 r.1.takes, Gvc 214 203 204 47 u1 r.1.gives]) := by
 have s0 : SL w FF w [Cw g2 4 [.bool a2]] := SL.init w FF hst
 refine cin func218 ntmps218 2 rfl rfl rfl fun _ F0 => ?_
 unfold Ar6 at H
 refine Ar F0 s0 rfl rfl rfl fun g0 w0 _ F s1 => Ar F s1 rfl rfl rfl fun g1 w1 _ F s2 => Af F s2 Aeo rfl rfl fun g32 w2 _ F s3 => ?_
 obtain ⟨x0, h0, H⟩ := Aa H
 refine gw 6 F rfl fun _ F => Ki F s3 m2 1 rfl fun _ F => Ki F s3 m1 0 rfl fun _ F => std F (A62 (hr0_0.M3 s3) h0) fun v0 w3 _ h1 F => ?_
 obtain ⟨_, rfl, h2⟩ := h1
 have s4 := s3.add h2
 refine gw 7 F rfl fun _ F => Ki F s4 m2 2 rfl fun _ F => bsp 17 F H (fun h3 H F => ?_) (fun h3 H F => ?_)
 ·refine gw 24 F rfl fun _ F => gx F (Al (vs := []) Aeo Ai2 rfl (cs := [.slice none 0 0, .nilFunc]) (rfl)) 0 rfl rfl fun _ F => Ai F s4.f1 rfl rfl Ahy (Ab rfl (Ab rfl Ap)) (Ac rfl) fun w4 _ F s5 => ?_
  cases H
  refine gw 5 F rfl fun _ F => ?_
  refine Ak (rs := [.cell 5 226, .tmp 6]) (vs := [.agg ⟨[.slice none 0 0, .nilFunc]⟩, jI 72]) F (by rfl) ⟨_, _, rfl, Am s5 m0 rfl Ag1 rfl, _, _, rfl, Ao rfl, rfl⟩ ⟨_, rfl, ⟨(.slice none 0 0), .nilFunc, rfl, (SL.Aum (SL.Ac3 (T := HO) s5)).f2.drop.f2.drop.f2.drop.f2.drop.f2.drop.f1⟩⟩
 refine gw 1 F rfl fun _ F => Lm F rfl rfl <| Ki F s4 m2 1 rfl fun _ F => Lm F rfl rfl <| Ki F s4 m3 0 rfl fun _ F => Lm F rfl rfl <| gx F (Ah rfl underlying22 (fR hr0_0 s4)) 3 rfl rfl fun _ F => bsp 25 F H (fun h4 H F => ?_) (fun h4 H F => ?_)
 ·refine gw 16 F rfl fun _ F => gx F (Al (vs := []) Aeo Ai2 rfl (cs := [.slice none 0 0, .nilFunc]) (rfl)) 0 rfl rfl fun _ F => Ai F s4.f1 rfl rfl Ahy (Ab rfl (Ab rfl Ap)) (Ac rfl) fun w5 _ F s6 => ?_
  cases H
  refine gw 5 F rfl fun _ F => ?_
  refine Ak (rs := [.cell 5 226, .tmp 6]) (vs := [.agg ⟨[.slice none 0 0, .nilFunc]⟩, jI 72]) F (by rfl) ⟨_, _, rfl, Am s6 m0 rfl Ag1 rfl, _, _, rfl, Ao rfl, rfl⟩ ⟨_, rfl, ⟨(.slice none 0 0), .nilFunc, rfl, (SL.Aum (SL.Ac3 (T := HO) s6)).f2.drop.f2.drop.f2.drop.f2.drop.f2.drop.f1⟩⟩
 refine gw 1 F rfl fun _ F => Lm F rfl rfl <| Ki F s4 m2 3 rfl fun _ F => bsp 30 F H (fun h5 H F => ?_) (fun h5 H F => ?_)
 ·refine gw 11 F rfl fun _ F => gx F (Al (vs := []) Aeo Ai2 rfl (cs := [.slice none 0 0, .nilFunc]) (rfl)) 0 rfl rfl fun _ F => Ai F s4.f1 rfl rfl Ahy (Ab rfl (Ab rfl Ap)) (Ac rfl) fun w6 _ F s7 => ?_
  cases H
  refine gw 5 F rfl fun _ F => ?_
  refine Ak (rs := [.cell 5 226, .tmp 6]) (vs := [.agg ⟨[.slice none 0 0, .nilFunc]⟩, jI 72]) F (by rfl) ⟨_, _, rfl, Am s7 m0 rfl Ag1 rfl, _, _, rfl, Ao rfl, rfl⟩ ⟨_, rfl, ⟨(.slice none 0 0), .nilFunc, rfl, (SL.Aum (SL.Ac3 (T := HO) s7)).f2.drop.f2.drop.f2.drop.f2.drop.f2.drop.f1⟩⟩
 refine gw 1 F rfl fun _ F => Lm F rfl rfl <| Ki F s4 m2 1 rfl fun _ F => Lm F rfl rfl <| gx F (Ah rfl underlying101 (fO s4 m0)) 4 rfl rfl fun _ F => Ll F H 2 6 rfl rfl rfl (fun h6 H _ F => ?_) (fun h6 H _ F => ?_)
 ·refine gx F (Al (vs := []) Aeo Ai2 rfl (cs := [.slice none 0 0, .nilFunc]) (rfl)) 0 rfl rfl fun _ F => Ai F s4.f1 rfl rfl Ahy (Ab rfl (Ab rfl Ap)) (Ac rfl) fun w7 _ F s8 => ?_
  cases H
  refine gw 5 F rfl fun _ F => ?_
  refine Ak (rs := [.cell 5 226, .tmp 6]) (vs := [.agg ⟨[.slice none 0 0, .nilFunc]⟩, jI 72]) F (by rfl) ⟨_, _, rfl, Am s8 m0 rfl Ag1 rfl, _, _, rfl, Ao rfl, rfl⟩ ⟨_, rfl, ⟨(.slice none 0 0), .nilFunc, rfl, (SL.Aum (SL.Ac3 (T := HO) s8)).f2.drop.f2.drop.f2.drop.f2.drop.f2.drop.f1⟩⟩
 obtain ⟨x1, h7, H⟩ := Aa H
 obtain ⟨a3, h8, h9⟩ := Ax Agh s4 m0 Aks rfl h7
 refine Ki F s4 m2 0 rfl fun _ F => gi F h8 0 rfl fun _ F => gx F (Ba Azj rfl) 0 rfl rfl fun _ F => gx F (An Acy rfl (Abe.at_ (SL.Aef Agh s4 m0 h9 h7) (o := 1) rfl)) 6 rfl rfl fun _ F => Ki F s4 m4 2 rfl fun _ F => Ll F H 3 5 rfl rfl rfl (fun ha H _ F => ?_) (fun ha H _ F => ?_)
 ·obtain ⟨x2, hb, H⟩ := Aa H
  refine Ki F s4 m2 0 rfl fun _ F => gca F s4 (Axo hb) 0 rfl rfl rfl rfl fun w8 _ F s9 => ?_
  obtain ⟨x3, hc, H⟩ := Aa H
  refine gca F s9 (Apu hc) 1 rfl rfl rfl rfl fun w9 _ F sa => ?_
  obtain ⟨x4, hd, H⟩ := Aa H
  refine gca F sa (Apu hd) 0 rfl rfl rfl rfl fun wa _ F sb => ?_
  refine Ae (parts := [(0, .tmp 48), (1, .tmp 50)]) Adk ([x3, x4] : List BQ) F sb Aea rfl (by decide) rfl rfl rfl (by simp [Value.cells]) rfl rfl rfl fun v1 wb _ F sc => ?_
  refine As (args := [.const (.slice none 0 0)]) F Aey rfl (Adg rfl) rfl fun v2 wc _ he F => ?_
  obtain ⟨g3, hf, hg⟩ := he
  have sd := sc.add hg
  have se := SL.Aeh (c := 214) (d := 203) (s := 204) hf ((SL.Ac3 (T := Ty.u8) sd).f1)
  have hh := (fO se m1)
  have hi := se.Ajx m0
  refine gx F (Al (vs := [v1, v2]) Aeo Ai2 rfl (cs := [v1, v2]) (Afm rfl (Ag hh) (by simp) <| Afm rfl (hi).1 (by simp) <| Ac1)) 0 rfl rfl fun _ F => ?_
  refine Ai F se.f3 rfl rfl Ahy (Ab (Aq (fO se.f3 m2)) (Ab (se.f3.Ajx m1).2 Ap)) (Ac rfl) fun wd _ F sf => ?_
  cases H
  refine gw 5 F rfl fun _ F => ?_
  refine Ak (rs := [.cell 5 226, .tmp 6]) (vs := [.agg ⟨[v1, v2]⟩, jI 0]) F (by rfl) ⟨_, _, rfl, Am sf m0 rfl Ag1 rfl, _, _, rfl, Ao rfl, rfl⟩ ⟨_, rfl, ⟨v1, v2, rfl, sf.drop.f2.drop.f2.drop.f2.drop.f2.drop.f1⟩⟩
 obtain ⟨x5, hj, H⟩ := Aa H
 refine Ki F s4 m2 0 rfl fun _ F => gca F s4 (Axo hj) 0 rfl rfl rfl rfl fun we _ F sg => ?_
 obtain ⟨x6, hk, H⟩ := Aa H
 refine gca F sg (Apu hk) 0 rfl rfl rfl rfl fun wf _ F sh => ?_
 refine Ae (parts := [(0, .tmp 57)]) Adk ([x6] : List BQ) F sh Aea rfl (by decide) rfl rfl rfl (by simp [Value.cells]) rfl rfl rfl fun v3 wg _ F si => ?_
 refine gw 1 F rfl fun _ F => ?_
 refine Ae (parts := [(0, .tmp 59)]) Flat.u8 ([x1.Akl] : List UInt8) F si Abp rfl (by decide) rfl rfl rfl (by simp [Value.cells]) rfl rfl rfl fun v4 wh _ F sj => ?_
 refine As (args := [.tmp 60]) F Aey rfl (Adg (Ag (fO sj m0))) rfl fun v5 wi _ hl F => ?_
 obtain ⟨g4, hm, hn⟩ := hl
 have sk := sj.add hn
 have sl := SL.Aeh (c := 214) (d := 203) (s := 204) hm sk.f1.f1
 have ho := (fO sl m1)
 have hp := sl.Ajx m0
 refine gx F (Al (vs := [v3, v5]) Aeo Ai2 rfl (cs := [v3, v5]) (Afm rfl (Ag ho) (by simp) <| Afm rfl (hp).1 (by simp) <| Ac1)) 0 rfl rfl fun _ F => ?_
 refine Ai F sl.f3 rfl rfl Ahy (Ab (Aq (fO sl.f3 m2)) (Ab (sl.f3.Ajx m1).2 Ap)) (Ac rfl) fun wj _ F sm => ?_
 cases H
 refine gw 4 F rfl fun _ F => ?_
 refine Ak (rs := [.cell 5 226, .tmp 6]) (vs := [.agg ⟨[v3, v5]⟩, jI 0]) F (by rfl) ⟨_, _, rfl, Am sm m0 rfl Ag1 rfl, _, _, rfl, Ao rfl, rfl⟩ ⟨_, rfl, ⟨v3, v5, rfl, sm.drop.f2.drop.f2.drop.f2.drop.f2.drop.f1⟩⟩
theorem ABy {w : World} {FF : List Nat} {v v0 v1 : Value} {t : Af0 BQ} {e : GG} {i : CO} {r : Ac6 × Int} (hst : Acd [Tlc Abc HO v t] w FF) (hv0 : Rd Hw w FF v0 e.Classes) (hv1 : Rd Ach w FF v1 e.OS) (H : Ak5 t e i = some r) :
    ∃ f caps, v = clo f caps ∧ fnB prog f = true ∧ Calls prog f (([.agg ⟨[v0, v1, jI e.Fn]⟩, .agg ⟨[jI i.At, jU (i.Op.toNat : Int), jI i.A, jI i.B]⟩] : List Value) ++ caps).toArray w (Ret fun u_ w_ => ∃ u0 u1 : Value, u_ = .tuple ⟨[.agg ⟨[u0, u1]⟩, jI r.2]⟩ ∧ SL w FF w_ [Sl HO u0 r.1.takes, Gvc 214 203 204 47 u1 r.1.gives]) := by
  cases t with
  | fixed l x =>
    obtain ⟨qs, ⟨g1, g2, u1, u2, rfl, rfl⟩, hs⟩ := Arh hst
    exact ⟨215, [jP g1, jP g2], rfl, AJe, A4f hs hv0 hv1 H⟩
  | call =>
    obtain ⟨qs, ⟨rfl, rfl⟩, hs⟩ := Arh hst
    have hF : FF = [] := hs
    subst hF
    exact ⟨205, [], rfl, AJh, AB2 hv0 hv1 H⟩
  | ret x =>
    obtain ⟨qs, ⟨g1, u1, rfl, rfl⟩, hs⟩ := Arh hst
    exact ⟨206, [jP g1], rfl, AHo, A4k hs hv0 hv1 H⟩
  | classed l b =>
    obtain ⟨qs, ⟨g1, g2, u1, rfl, rfl⟩, hs⟩ := Arh hst
    exact ⟨216, [jP g1, jP g2], rfl, AHu, A2e hs hv0 hv1 H⟩
  | field b =>
    obtain ⟨qs, ⟨g1, rfl, rfl⟩, hs⟩ := Arh hst
    exact ⟨218, [jP g1], rfl, AHs, A4h hs hv0 hv1 H⟩
  | nil => cases H
theorem ACb {w : World} {v0_0 v0_1 : Value} {a0 : GG} {a1 : CO} {r : Ac6 × Int} (hr0_0 : Rd Hw w [] v0_0 a0.Classes) (hr0_1 : Rd Ach w [] v0_1 a0.OS) (H : Aq5 a0 a1 = some r) :
    Calls prog 161 #[.agg ⟨[v0_0, v0_1, jI a0.Fn]⟩, .agg ⟨[jI a1.At, jU (a1.Op.toNat : Int), jI a1.A, jI a1.B]⟩] w (Ret fun u_ w_ => ∃ u0 u1 : Value, u_ = .tuple ⟨[.agg ⟨[u0, u1]⟩, jI r.2]⟩ ∧ SL w [] w_ [Sl HO u0 r.1.takes, Gvc 214 203 204 47 u1 r.1.gives]) := by
 have s0 : SL w [] w [] := SL.Abr w
 refine cin func161 ntmps161 2 rfl rfl rfl fun _ F0 => ?_
 unfold Aq5 at H
 refine Ar F0 s0 rfl rfl rfl fun g0 w0 _ F s1 => Ar F s1 rfl rfl rfl fun g1 w1 _ F s2 => Af F s2 Aeo rfl rfl fun g32 w2 _ F s3 => ?_
 obtain ⟨x0, h0, H⟩ := Aa H
 refine gw 7 F rfl fun _ F => Ki F s3 m1 0 rfl fun _ F => gca F s3 (Aos h0) 3 rfl rfl rfl rfl fun w3 _ F s4 => Ll F H 2 3 rfl rfl rfl (fun h1 H _ F => ?_) (fun h1 H _ F => ?_)
 ·refine gx F (Al (vs := []) Aeo Ai2 rfl (cs := [.slice none 0 0, .nilFunc]) (rfl)) 0 rfl rfl fun _ F => Ai F s4 rfl rfl Ahy (Ab rfl (Ab rfl Ap)) (Ac rfl) fun w4 _ F s5 => ?_
  cases H
  refine gw 5 F rfl fun _ F => ?_
  refine Ak (rs := [.cell 4 226, .tmp 5]) (vs := [.agg ⟨[.slice none 0 0, .nilFunc]⟩, jI 40]) F (by rfl) ⟨_, _, rfl, Am s5 m0 rfl Ag1 rfl, _, _, rfl, Ao rfl, rfl⟩ ⟨_, rfl, ⟨(.slice none 0 0), .nilFunc, rfl, (SL.Aum (SL.Ac3 (T := HO) s5)).f2.drop.f2.drop.f2.drop.f1⟩⟩
 obtain ⟨x1, h2, H⟩ := Aa H
 obtain ⟨t0, h3, H⟩ := Aa H
 obtain ⟨x2, h4, H⟩ := Aa H
 refine Ad4 Abj s4.drop ?_
 refine hq [1, 2, 4, 5] F s4.drew.drop (QI.ev 1 rfl <| QI.ld m0 rfl <| QI.ld m1 rfl <| QI.ld m0 rfl <| QI.nil) (by kernel_rfl) fun _ F => ?_
 refine ho 0 rfl (by kernel_rfl) ?_
 refine As (args := []) F AHy rfl (A9n h2) rfl fun v0 w5 _ h5 F => ?_
 obtain ⟨v1, rfl, h6, h7, h8⟩ := h5
 have s6 := s4.drew.add h7
 refine gw 1 F rfl fun _ F => ⟨s6.drop, ?_⟩
 refine ho 3 rfl (by kernel_rfl) ?_
 obtain ⟨t1, h9, ha⟩ := h8 _ _ h3
 refine Alp F (PR.op (AJu Ad3 AF6 h6 rfl rfl h9) <| PR.nil) fun _ F => ?_
 have s7 := s4.drew.add ha
 refine gw 1 F rfl fun _ F => ⟨s7.drop.drop, ?_⟩
 refine ho 6 rfl (by kernel_rfl) ?_
 obtain ⟨G0, hb, hc, hd, he⟩ := SL.open_ (ps := [Tlc Abc HO t1 t0]) (rest := [Cw g32 226 [.slice none 0 0, .nilFunc], Cw g1 79 [jI a1.At, jU (a1.Op.toNat : Int), jI a1.A, jI a1.B], Cw g0 110 [v0_0, v0_1, jI a0.Fn]]) s7
 obtain ⟨f0, c0, hf, hg, hh⟩ := ABy hb (hr0_0.pass s7 hc) (hr0_1.pass s7 hc) h4
 refine Aky (args := [.tmp 15, .tmp 16]) F hg (Eq.trans rfl (congrArg some hf)) rfl hh rfl fun v2 w6 _ hi F => ?_
 obtain ⟨v3, v4, rfl, hj⟩ := hi
 have s8 := he _ _ hj
 refine gw 1 F rfl fun _ F => ⟨s8.drop.drop.drop, ?_⟩
 refine hq [7, 8] F s8.drop.drop.drop (QI.ev 2 rfl <| QI.nil) (by kernel_rfl) fun _ F => ?_
 refine ho 9 rfl (by kernel_rfl) ?_
 refine Ai F s8.f2 rfl rfl Ahy (Ab (Aq (fO s8.f2 m1)) (Ab (s8.f2.Ajx m2).2 Ap)) (Ac rfl) fun w7 _ F s9 => gw 1 F rfl fun _ F => ⟨s9.drop.drop.drop, ?_⟩
 refine hq [10] F s9.drop.drop.drop (QI.ev 1 rfl <| QI.nil) (by kernel_rfl) fun _ F => ?_
 refine Aew (by kernel_rfl) ?_
 cases H
 refine ge 2 F rfl fun _ F => ?_
 refine Ak (rs := [.cell 4 226, .tmp 5]) (vs := [.agg ⟨[v3, v4]⟩, jI x2.2]) F (by rfl) ⟨_, _, rfl, Am s9 m0 rfl Ag1 rfl, _, _, rfl, Ao rfl, rfl⟩ ⟨_, rfl, ⟨v3, v4, rfl, s9.drop.f2.drop.f2.drop⟩⟩
theorem A1r {w : World} {a0 : B0} {a1 : Int} {r : UInt8 × Int} (H : Ar0 a0 a1 = some r) :
    Calls prog 186 #[.agg ⟨(jI a0.Locals :: jI a0.Height :: XK a0.Slots)⟩, jI a1] w (Ret fun u_ w_ => u_ = .tuple ⟨[jU (r.1.toNat : Int), jI r.2]⟩ ∧ SL w [] w_ []) := by
 have s0 : SL w [] w [] := SL.Abr w
 refine cin func186 ntmps186 2 rfl rfl rfl fun _ F0 => ?_
 unfold Ar0 at H
 refine Ar F0 s0 rfl rfl rfl fun g8 w9 _ F s1 => ?_
 obtain ⟨x0, h0, H⟩ := Aa H
 refine gw 8 F rfl fun _ F => gla F s1 m0 0 rfl fun _ F => gca F s1 (Aoa h0) 4 rfl rfl rfl rfl fun w0 _ F s2 => Ll F H 9 7 rfl rfl rfl (fun h1 H _ F => ?_) (fun h1 H _ F => ?_)
 ·cases H
  exact rt F ⟨rfl, s2.drop⟩
 refine Ll F H 9 4 rfl rfl rfl (fun h2 H _ F => ?_) (fun h2 H _ F => ?_)
 ·cases H
  exact rt F ⟨rfl, s2.drop⟩
 refine Ki F s2 m0 4 rfl fun _ F => Ll F H 9 6 rfl rfl rfl (fun h3 H _ F => ?_) (fun h3 H _ F => ?_)
 ·cases H
  exact rt F ⟨rfl, s2.drop⟩
 obtain ⟨x1, h4, H⟩ := Aa H
 refine Ki F s2 m0 1 rfl fun _ F => Ki F s2 m0 5 rfl fun _ F => gx F (Agt Ae9 h4 rfl rfl) 0 rfl rfl fun _ F => ?_
 cases H
 exact gx F (An Acy rfl (SL.Amp (pre := [jI a0.Locals, jI a0.Height]) s2 m0 rfl h4)) 5 rfl rfl fun _ F => rt F ⟨rfl, s2.drop⟩
end Go.Proofs.YtfcpkcehecmcpaaGreat
