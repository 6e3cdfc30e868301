/- Lemmas, walks and laws that the row of this claim rests on, merged into few texts: part 4. -/
import Derived.Test.YtfcpkcehecmcpaaGreatProg
import Derived.Test.YtfcpkcehecmcpaaGreatKc
set_option linter.unusedVariables false
set_option linter.unusedSimpArgs false
namespace Go.Proofs.YtfcpkcehecmcpaaGreat
open Go Go.RowKit Go.Pv Go.Proofs.Tryz
theorem Bz : HE prog 28 3 1 8 (LS 1) = true := by kernel_rfl
theorem Tf : EM prog 49 = true := by kernel_rfl
theorem Arx : IJ prog 26 4 = true := by kernel_rfl
theorem KV : (prog.info? 26).bind (·.zero) = some (.agg ⟨[.string ⟨⟨[]⟩⟩, .slice none 0 0, .slice none 0 0, .slice none 0 0]⟩) := by kernel_rfl
theorem IC : Jm prog 9 = true := by kernel_rfl
theorem XH : Jm prog 22 = true := by kernel_rfl
theorem D5 : HE prog 22 103 3 48 (LS 3) = true := by kernel_rfl
theorem Ob : IJ prog 103 3 = true := by kernel_rfl
theorem OB : (prog.info? 103).bind (·.zero) = some (.agg ⟨[.string ⟨⟨[]⟩⟩, .int .i64 0, .slice none 0 0]⟩) := by kernel_rfl
theorem Q4 : (prog.info? 103).map (·.size) = some 3 := by kernel_rfl
theorem Ku : KI prog 103 2 2 1 = true := by kernel_rfl
theorem Lp : Jm prog 101 = true := by kernel_rfl
theorem Hd : HE prog 101 106 2 24 (LS 2) = true := by kernel_rfl
theorem Xu : (prog.info? 101).map (·.size) = some 1 := by kernel_rfl
theorem YO : P2 prog 26 [(0, 1), (1, 1), (2, 1), (3, 1)] = true := by kernel_rfl
theorem VC : (prog.info? 26).map (·.size) = some 4 := by kernel_rfl
theorem Bq : prog.follows .mixedOrders = true := by kernel_rfl
theorem Ke : HE prog 23 52 5 80 (LS 5) = true := by kernel_rfl
theorem My : IJ prog 52 5 = true := by kernel_rfl
theorem Oa : (prog.info? 52).bind (·.zero) = some (.agg ⟨[.string ⟨⟨[]⟩⟩, .slice none 0 0, .int .u8 0, .int .i64 0, .slice none 0 0]⟩) := by kernel_rfl
theorem Qe : (prog.info? 52).map (·.size) = some 5 := by kernel_rfl
theorem Ab5 : KI prog 52 1 1 2 = true := by kernel_rfl
theorem J1 : IJ prog 50 2 = true := by kernel_rfl
theorem KT : (prog.info? 50).bind (·.zero) = some (.agg ⟨[.slice none 0 0, .int .u8 0]⟩) := by kernel_rfl
theorem M7 : KI prog 50 0 0 1 = true := by kernel_rfl
theorem M1 : Jm prog 47 = true := by kernel_rfl
theorem Br : HE prog 47 48 1 1 (LS 1) = true := by kernel_rfl
theorem A7g : (prog.info? 47).map (·.size) = some 1 := by kernel_rfl
theorem OG : (prog.info? 50).map (·.size) = some 2 := by kernel_rfl
theorem ZS : KI prog 52 3 4 1 = true := by kernel_rfl
theorem QQ : Jm prog 42 = true := by kernel_rfl
theorem DX : HE prog 42 5 1 1 (LS 1) = true := by kernel_rfl
theorem Vs : (prog.info? 42).map (·.size) = some 1 := by kernel_rfl
theorem Ax0 : (prog.info? 23).map (·.size) = some 1 := by kernel_rfl
theorem OE : HE prog 24 42 1 24 (LS 1) = true := by kernel_rfl
theorem A2a : (prog.info? 24).map (·.size) = some 1 := by kernel_rfl
theorem Gx : (prog.info? 110).bind (·.zero) = some (.agg ⟨[.slice none 0 0, .slice none 0 0, .int .i64 0]⟩) := by kernel_rfl
theorem Nv : P2 prog 110 [(0, 1), (1, 1), (2, 1)] = true := by kernel_rfl
theorem J3 : (prog.info? 110).map (·.size) = some 3 := by kernel_rfl
theorem Ln : IJ prog 110 3 = true := by kernel_rfl
theorem A11 : (prog.info? 22).map (·.size) = some 1 := by kernel_rfl
theorem RY : KI prog 50 1 1 1 = true := by kernel_rfl
theorem BF : Jm prog 48 = true := by kernel_rfl
theorem Y5 : P2 prog 50 [(0, 1), (1, 1)] = true := by kernel_rfl
theorem E2 : HE prog 108 50 2 32 (LS 2) = true := by kernel_rfl
theorem Xh : (prog.info? 108).map (·.size) = some 1 := by kernel_rfl
theorem BE : Jm prog 3 = true := by kernel_rfl
theorem K0 : KI prog 103 0 0 1 = true := by kernel_rfl
theorem N5 : HE prog 218 9 1 16 (LS 1) = true := by kernel_rfl
theorem Aeg : EM prog 155 = true := by kernel_rfl
theorem HF : KI prog 103 1 1 1 = true := by kernel_rfl
theorem Zp : (prog.info? 218).bind (·.zero) = some (.slice none 0 0) := by kernel_rfl
theorem NR : IJ prog 106 2 = true := by kernel_rfl
theorem QD : (prog.info? 106).bind (·.zero) = some (.agg ⟨[.string ⟨⟨[]⟩⟩, .int .u8 0]⟩) := by kernel_rfl
theorem TQ : (prog.info? 106).map (·.size) = some 2 := by kernel_rfl
theorem UT : KI prog 106 0 0 1 = true := by kernel_rfl
theorem Xr : (prog.info? 218).map (·.size) = some 1 := by kernel_rfl
theorem Ahk : EM prog 180 = true := by kernel_rfl
theorem QX : KI prog 106 1 1 1 = true := by kernel_rfl
theorem XC : EM prog 128 = true := by kernel_rfl
theorem AO : (prog.info? 118).bind (·.zero) = some (.agg ⟨(.int .i64 0 :: .int .i64 0 :: AU (Vector.replicate 24 (0 : UInt8)))⟩) := by kernel_rfl
theorem Ch : P2 prog 118 [(0, 1), (1, 1), (2, 24)] = true := by kernel_rfl
theorem AX : (prog.info? 118).map (·.size) = some 26 := by kernel_rfl
theorem AZ : IJ prog 118 26 = true := by kernel_rfl
theorem Db : Ss prog 116 48 24 1 = true := by kernel_rfl
theorem JL : (prog.info? 48).map (·.size) = some 1 := by kernel_rfl
theorem Hk : Key prog 3 (Value.int .i64) := Key.int underlying3
theorem QG : (prog.info? 179).bind (·.zero) = some (.agg ⟨[]⟩) := by kernel_rfl
theorem Uk : P2 prog 179 [] = true := by kernel_rfl
theorem Aox : P2 prog 154 [(0, 3), (3, 1), (4, 1), (5, 1), (6, 1), (7, 1)] = true := by kernel_rfl
theorem YZ : (prog.info? 154).bind (·.zero) = some (.agg ⟨[.slice none 0 0, .slice none 0 0, .int .i64 0, .slice none 0 0, .map none, .map none, .map none, .int .i64 0]⟩) := by kernel_rfl
theorem IW : (prog.info? 3).map (·.size) = some 1 := by kernel_rfl
theorem DZ : (prog.info? 79).bind (·.zero) = some (.agg ⟨[.int .i64 0, .int .u8 0, .int .i64 0, .int .i64 0]⟩) := by kernel_rfl
theorem SV : P2 prog 79 [(0, 1), (1, 1), (2, 1), (3, 1)] = true := by kernel_rfl
theorem D4 : (prog.info? 79).map (·.size) = some 4 := by kernel_rfl
theorem Eh : IJ prog 79 4 = true := by kernel_rfl
theorem LJ : Jm prog 5 = true := by kernel_rfl
theorem Ab3 : (prog.info? 42).bind (·.zero) = some (.slice none 0 0) := by kernel_rfl
theorem ZV : KI prog 79 1 1 1 = true := by kernel_rfl
theorem YM : EM prog 75 = true := by kernel_rfl
theorem ZN : KI prog 79 2 2 1 = true := by kernel_rfl
theorem Aav : KI prog 79 0 0 1 = true := by kernel_rfl
theorem A2k : EM prog 74 = true := by kernel_rfl
theorem AF5 : (prog.info? 3).bind (·.zero) = some ((Value.int .i64) (0 : Int)) := by kernel_rfl
theorem TX : (prog.info? 118).bind (·.zero) = some (.agg ⟨(.int .i64 0 :: .int .i64 0 :: AU (Vector.replicate 24 (0 : UInt8)))⟩) := by kernel_rfl
theorem X0 : EM prog 182 = true := by kernel_rfl
theorem U8 : KI prog 118 1 1 1 = true := by kernel_rfl
theorem X9 : EM prog 183 = true := by kernel_rfl
theorem Aez : EM prog 184 = true := by kernel_rfl
theorem Vm : prog.cellsOf 48 = 1 := by kernel_rfl
theorem Lh : IJ prog 116 24 = true := by kernel_rfl
theorem Uv : (prog.fieldsOf 118).toList = [(⟨ "Locals", 3, 0, false, "", "", 0⟩ : Field), (⟨ "Height", 3, 1, false, "", "", 8⟩ : Field), (⟨ "Slots", 116, 2, false, "", "", 16⟩ : Field)] := by kernel_rfl
theorem N7 : Vl prog 118 = true := by kernel_rfl
theorem CC : (prog.info? 226).bind (·.zero) = some (.agg ⟨[.slice none 0 0, .nilFunc]⟩) := by kernel_rfl
theorem Fw : P2 prog 226 [(0, 1), (1, 1)] = true := by kernel_rfl
theorem EL : (prog.info? 226).map (·.size) = some 2 := by kernel_rfl
theorem Em : IJ prog 226 2 = true := by kernel_rfl
theorem UW : (prog.info? 249).bind (·.zero) = some (.agg ⟨[.nilFunc, .nilFunc, .nilFunc, .nilFunc, .nilFunc, .nilFunc, .nilFunc, .nilFunc, .nilFunc, .nilFunc, .nilFunc, .nilFunc, .nilFunc, .nilFunc, .nilFunc, .nilFunc, .nilFunc, .nilFunc, .nilFunc, .nilFunc, .nilFunc, .nilFunc, .nilFunc, .nilFunc, .nilFunc, .nilFunc, .nilFunc, .nilFunc, .nilFunc, .nilFunc, .nilFunc, .nilFunc, .nilFunc, .nilFunc]⟩) := by kernel_rfl
theorem Eo : (prog.info? 253).bind (·.zero) = some (.agg ⟨[.int .i64 0, .int .u8 0]⟩) := by kernel_rfl
theorem Io : P2 prog 253 [(0, 1), (1, 1)] = true := by kernel_rfl
theorem Qy : (prog.info? 253).map (·.size) = some 2 := by kernel_rfl
theorem VS : IJ prog 253 2 = true := by kernel_rfl
theorem Cv : HE prog 224 253 2 16 (LS 2) = true := by kernel_rfl
theorem CQ : EM prog 201 = true := by kernel_rfl
theorem Zx : (prog.info? 142).bind (·.zero) = some (.nilFunc) := by kernel_rfl
theorem Adj : (prog.info? 142).map (·.size) = some 1 := by kernel_rfl
theorem VU : Jm prog 142 = true := by kernel_rfl
theorem Dc : EM prog 202 = true := by kernel_rfl
theorem Cp : Ss prog 249 248 34 1 = true := by kernel_rfl
theorem Cr : (prog.info? 248).map (·.size) = some 1 := by kernel_rfl
theorem TL : EM prog 208 = true := by kernel_rfl
theorem Xv : EM prog 209 = true := by kernel_rfl
theorem Wo : IJ prog 249 34 = true := by kernel_rfl
theorem Adp : (prog.info? 249).map (·.size) = some 34 := by kernel_rfl
theorem Agd : EM prog 185 = true := by kernel_rfl
theorem Abz : Jm prog 248 = true := by kernel_rfl
theorem Vq : Jm prog 4 = true := by kernel_rfl
theorem Ab8 : (prog.info? 28).bind (·.zero) = some (.slice none 0 0) := by kernel_rfl
theorem Ays : (prog.info? 28).map (·.size) = some 1 := by kernel_rfl
theorem Aqs : EM prog 100 = true := by kernel_rfl
theorem Cu : (prog.info? 4).bind (·.zero) = some (.bool false) := by kernel_rfl
theorem NZ : (prog.info? 4).map (·.size) = some 1 := by kernel_rfl
theorem Ae3 : EM prog 219 = true := by kernel_rfl
theorem Aeb : EM prog 187 = true := by kernel_rfl
theorem YJ : EM prog 50 = true := by kernel_rfl
theorem Aby : (prog.info? 48).bind (·.zero) = some (.int .u8 0) := by kernel_rfl
theorem Eg : (prog.info? 3).bind (·.zero) = some (.int .i64 0) := by kernel_rfl
theorem Adf : EM prog 212 = true := by kernel_rfl
theorem A5u : EM prog 73 = true := by kernel_rfl
theorem Apm : EM prog 106 = true := by kernel_rfl
theorem Amh : EM prog 107 = true := by kernel_rfl
theorem Ayw : EM prog 72 = true := by kernel_rfl
theorem XF : P2 prog 120 [(0, 1), (1, 1), (2, 26)] = true := by kernel_rfl
theorem QH : (prog.info? 120).bind (·.zero) = some (.agg ⟨(.int .i64 0 :: .bool false :: .int .i64 0 :: .int .i64 0 :: AU (Vector.replicate 24 (0 : UInt8)))⟩) := by kernel_rfl
theorem KX : HE prog 113 120 28 56 (LS 28) = true := by kernel_rfl
theorem Axr : P2 prog 81 [(0, 1), (1, 1)] = true := by kernel_rfl
theorem Aa7 : (prog.info? 81).bind (·.zero) = some (.agg ⟨[.slice none 0 0, .int .i64 0]⟩) := by kernel_rfl
theorem ZL : IJ prog 120 28 = true := by kernel_rfl
theorem Aqn : (prog.info? 120).map (·.size) = some 28 := by kernel_rfl
theorem Zc : KI prog 120 0 0 1 = true := by kernel_rfl
theorem IF : HE prog 75 79 4 32 (LS 4) = true := by kernel_rfl
theorem A38 : (prog.info? 75).map (·.size) = some 1 := by kernel_rfl
theorem Uz : KI prog 120 2 2 26 = true := by kernel_rfl
theorem Co : HE prog 44 4 1 1 (LS 1) = true := by kernel_rfl
theorem Un : EM prog 169 = true := by kernel_rfl
theorem Aex : EM prog 120 = true := by kernel_rfl
theorem A6g : EM prog 81 = true := by kernel_rfl
theorem D9 : HE prog 162 118 26 40 (LS 26) = true := by kernel_rfl
theorem WJ : P2 prog 164 [(0, 1), (1, 1), (2, 1), (3, 1)] = true := by kernel_rfl
theorem Dw : (prog.info? 164).bind (·.zero) = some (.agg ⟨[.slice none 0 0, .slice none 0 0, .slice none 0 0, .slice none 0 0]⟩) := by kernel_rfl
theorem Alt : (prog.info? 164).map (·.size) = some 4 := by kernel_rfl
theorem A3n : EM prog 84 = true := by kernel_rfl
theorem Als : (prog.fieldsOf 106).toList = [(⟨ "Name", 9, 0, false, "", "", 0⟩ : Field), (⟨ "Type", 48, 1, false, "", "", 16⟩ : Field)] := by kernel_rfl
theorem Xz : Vl prog 106 = true := by kernel_rfl
theorem A5s : EM prog 53 = true := by kernel_rfl
theorem Auh : EM prog 32 = true := by kernel_rfl
theorem Au4 : EM prog 33 = true := by kernel_rfl
theorem A7y : EM prog 92 = true := by kernel_rfl
theorem Acz : EM prog 214 = true := by kernel_rfl
theorem Amc : EM prog 203 = true := by kernel_rfl
theorem Ade : EM prog 204 = true := by kernel_rfl
theorem Arw : EM prog 215 = true := by kernel_rfl
theorem Adx : EM prog 205 = true := by kernel_rfl
theorem Alm : EM prog 206 = true := by kernel_rfl
theorem Adr : EM prog 216 = true := by kernel_rfl
theorem Akv : EM prog 218 = true := by kernel_rfl
end Go.Proofs.YtfcpkcehecmcpaaGreat
namespace Go.Proofs.YtfcpkcehecmcpaaGreat
open Go Go.RowKit Go.Pv Go.Proofs.Tryz
def tab : JD := ⟨[(26, 0, 0, 1), (26, 1, 1, 1), (26, 2, 2, 1), (26, 3, 3, 1), (50, 0, 0, 1), (50, 1, 1, 1), (52, 0, 0, 1), (52, 1, 1, 2), (52, 2, 3, 1), (52, 3, 4, 1), (79, 0, 0, 1), (79, 1, 1, 1), (79, 2, 2, 1), (79, 3, 3, 1), (81, 0, 0, 1), (81, 1, 1, 1), (103, 0, 0, 1), (103, 1, 1, 1), (103, 2, 2, 1), (106, 0, 0, 1), (106, 1, 1, 1), (110, 0, 0, 1), (110, 1, 1, 1), (110, 2, 2, 1), (118, 0, 0, 1), (118, 1, 1, 1), (118, 2, 2, 24), (120, 0, 0, 1), (120, 2, 2, 26), (154, 0, 0, 3), (154, 1, 3, 1), (154, 2, 4, 1), (154, 3, 5, 1), (154, 4, 6, 1), (154, 5, 7, 1), (164, 0, 0, 1), (164, 1, 1, 1), (164, 2, 2, 1), (164, 3, 3, 1), (226, 0, 0, 1), (226, 1, 1, 1), (253, 0, 0, 1), (253, 1, 1, 1)], [8, 9, 10, 11, 12, 13, 14, 15, 16, 17, 18, 23, 24, 25, 26, 27, 28, 29, 30, 31, 33, 34, 35, 36, 44, 45, 46, 47, 48, 51, 52, 54, 55, 56, 57, 58, 59, 60, 67, 70, 71, 74, 75, 76, 79, 80, 81, 82, 83, 84, 85, 86, 87, 88, 89, 90, 91, 92, 93, 94, 99, 100, 101, 103, 104, 105, 119, 121, 122, 123, 124, 125, 126, 127, 128, 129, 130, 131, 132, 133, 134, 135, 143, 144, 145, 146, 147, 148, 149, 150, 151, 152, 153, 154, 155, 156, 157, 158, 159, 160, 161, 162, 163, 164, 165, 167, 168, 170, 171, 172, 173, 174, 175, 176, 177, 178, 179, 180, 181, 182, 183, 184, 186, 188, 189, 190, 191, 192, 193, 194, 195, 196, 197, 198, 199, 200, 207, 210, 211, 212, 213, 217, 219], [3, 4, 5, 9, 22, 23, 24, 28, 42, 44, 47, 48, 75, 101, 108, 142, 150, 151, 152, 162, 218, 224, 248], [(26, 4), (50, 2), (52, 5), (79, 4), (103, 3), (106, 2), (110, 3), (116, 24), (118, 26), (120, 28), (164, 4), (226, 2), (249, 34), (253, 2)]⟩
instance : JP prog := ⟨tab, by kernel_rfl⟩
end Go.Proofs.YtfcpkcehecmcpaaGreat
namespace Go.Proofs.YtfcpkcehecmcpaaGreat
end Go.Proofs.YtfcpkcehecmcpaaGreat
namespace Go.Proofs.YtfcpkcehecmcpaaGreat
open Go Go.RowKit Go.Pv Go.Proofs.Tryz Go.Shelf Go.Proofs
def W4 : Go.Shelf.Ren := ⟨fun | 189 => 49 | 125 => 78 | 257 => 77 | 128 => 117 | 129 => 118 | 294 => 108 | 295 => 109 | 296 => 110 | 297 => 111 | 298 => 112 | 299 => 113 | 216 => 114 | 300 => 115 | 301 => 116 | 328 => 137 | 329 => 138 | 330 => 139 | 331 => 140 | 332 => 141 | 215 => 142 | 343 => 166 | n => n, fun | 28 => 28 | 3 => 3 | 46 => 41 | 0 => 0 | 51 => 191 | 53 => 193 | 4 => 4 | 183 => 183 | 182 => 182 | 131 => 188 | 5 => 5 | 9 => 9 | 218 => 205 | 222 => 209 | 228 => 235 | 229 => 156 | n => n, fun | n => n⟩
theorem Px : Go.Proofs.Lays.n189 prog W4 where
 mixed := by kernel_rfl
 f125 := func78.trans (congrArg some (by kernel_rfl))
 f128 := func117.trans (congrArg some (by kernel_rfl))
 f129 := func118.trans (congrArg some (by kernel_rfl))
 f189 := func49.trans (congrArg some (by kernel_rfl))
 f215 := func142.trans (congrArg some (by kernel_rfl))
 f216 := func114.trans (congrArg some (by kernel_rfl))
 f257 := func77.trans (congrArg some (by kernel_rfl))
 f294 := func108.trans (congrArg some (by kernel_rfl))
 f295 := func109.trans (congrArg some (by kernel_rfl))
 f296 := func110.trans (congrArg some (by kernel_rfl))
 f297 := func111.trans (congrArg some (by kernel_rfl))
 f298 := func112.trans (congrArg some (by kernel_rfl))
 f299 := func113.trans (congrArg some (by kernel_rfl))
 f300 := func115.trans (congrArg some (by kernel_rfl))
 f301 := func116.trans (congrArg some (by kernel_rfl))
 f328 := func137.trans (congrArg some (by kernel_rfl))
 f329 := func138.trans (congrArg some (by kernel_rfl))
 f330 := func139.trans (congrArg some (by kernel_rfl))
 f331 := func140.trans (congrArg some (by kernel_rfl))
 f332 := func141.trans (congrArg some (by kernel_rfl))
 f343 := func166.trans (congrArg some (by kernel_rfl))
 t0 := underlying0
 a0 := Tryz.isAgg0
 z0 := Tryz.sizeOf0
 v0 := Tryz.zeroValue0
 t3 := underlying3
 a3 := Tryz.isAgg3
 z3 := Tryz.sizeOf3
 v3 := Tryz.zeroValue3
 t4 := underlying4
 a4 := Tryz.isAgg4
 z4 := Tryz.sizeOf4
 v4 := Tryz.zeroValue4
 t5 := underlying5
 a5 := Tryz.isAgg5
 z5 := Tryz.sizeOf5
 v5 := Tryz.zeroValue5
 t9 := underlying9
 a9 := Tryz.isAgg9
 z9 := Tryz.sizeOf9
 v9 := Tryz.zeroValue9
 t28 := underlying28
 a28 := Tryz.isAgg28
 z28 := Tryz.sizeOf28
 v28 := Tryz.zeroValue28
 t46 := underlying41
 a46 := Tryz.isAgg41
 z46 := Tryz.sizeOf41
 v46 := Tryz.zeroValue41
 t51 := underlying191
 a51 := Tryz.isAgg191
 z51 := Tryz.sizeOf191
 v51 := Tryz.zeroValue191
 t53 := underlying193
 a53 := Tryz.isAgg193
 z53 := Tryz.sizeOf193
 v53 := Tryz.zeroValue193
 t131 := underlying188
 a131 := Tryz.isAgg188
 z131 := Tryz.sizeOf188
 v131 := Tryz.zeroValue188
 t182 := underlying182
 a182 := Tryz.isAgg182
 z182 := Tryz.sizeOf182
 v182 := Tryz.zeroValue182
 t183 := underlying183
 a183 := Tryz.isAgg183
 z183 := Tryz.sizeOf183
 v183 := Tryz.zeroValue183
 t218 := underlying205
 a218 := Tryz.isAgg205
 z218 := Tryz.sizeOf205
 v218 := Tryz.zeroValue205
 t222 := underlying209
 a222 := Tryz.isAgg209
 z222 := Tryz.sizeOf209
 v222 := Tryz.zeroValue209
 t228 := underlying235
 a228 := Tryz.isAgg235
 z228 := Tryz.sizeOf235
 v228 := Tryz.zeroValue235
 t229 := underlying156
 a229 := Tryz.isAgg156
 z229 := Tryz.sizeOf156
 v229 := Tryz.zeroValue156
def Ud : Go.Shelf.Ren := ⟨fun | 20 => 50 | n => n, fun | 22 => 28 | 3 => 3 | 4 => 4 | 0 => 0 | n => n, fun | n => n⟩
theorem Su : Go.Proofs.Lays2.n20 prog Ud where
 mixed := by kernel_rfl
 f20 := func50.trans (congrArg some (by kernel_rfl))
 t0 := underlying0
 a0 := Tryz.isAgg0
 z0 := Tryz.sizeOf0
 v0 := Tryz.zeroValue0
 t3 := underlying3
 a3 := Tryz.isAgg3
 z3 := Tryz.sizeOf3
 v3 := Tryz.zeroValue3
 t4 := underlying4
 a4 := Tryz.isAgg4
 z4 := Tryz.sizeOf4
 v4 := Tryz.zeroValue4
 t22 := underlying28
 a22 := Tryz.isAgg28
 z22 := Tryz.sizeOf28
 v22 := Tryz.zeroValue28
 i3 := by kernel_rfl
def UX : Go.Shelf.Ren := ⟨fun | 7 => 73 | 10 => 107 | n => n, fun | 23 => 150 | 26 => 3 | 3 => 118 | 28 => 148 | 0 => 0 | 27 => 147 | 33 => 89 | 4 => 4 | n => n, fun | n => n⟩
theorem TA : Go.Proofs.SlLaysZI.n7 prog UX where
 mixed := by kernel_rfl
 f7 := ⟨"maps.Keys[map[int]proviso/api.Frame,int,proviso/api.Frame]", by decide, func73.trans (congrArg some (by kernel_rfl))⟩
 f10 := ⟨"maps.Keys[map[int]proviso/api.Frame,int,proviso/api.Frame]$1", by decide, func107.trans (congrArg some (by kernel_rfl))⟩
 t0 := underlying0
 a0 := Tryz.isAgg0
 z0 := Tryz.sizeOf0
 v0 := Tryz.zeroValue0
 t4 := underlying4
 a4 := Tryz.isAgg4
 z4 := Tryz.sizeOf4
 v4 := Tryz.zeroValue4
 t23 := underlying150
 a23 := Tryz.isAgg150
 z23 := Tryz.sizeOf150
 v23 := Tryz.zeroValue150
 t26 := underlying3
 a26 := Tryz.isAgg3
 z26 := Tryz.sizeOf3
 v26 := Tryz.zeroValue3
 t27 := underlying147
 a27 := Tryz.isAgg147
 z27 := Tryz.sizeOf147
 v27 := Tryz.zeroValue147
 t28 := underlying148
 a28 := Tryz.isAgg148
 z28 := Tryz.sizeOf148
 v28 := Tryz.zeroValue148
 t33 := underlying89
 a33 := Tryz.isAgg89
 z33 := Tryz.sizeOf89
 v33 := Tryz.zeroValue89
def UL : Go.Shelf.Ren := ⟨fun | 6 => 72 | 8 => 106 | 9 => 49 | 11 => 136 | 13 => 78 | 12 => 77 | 23 => 117 | 24 => 118 | 14 => 108 | 15 => 109 | 16 => 110 | 17 => 111 | 18 => 112 | 19 => 113 | 20 => 114 | 21 => 115 | 22 => 116 | 25 => 137 | 26 => 138 | 27 => 139 | 28 => 140 | 29 => 141 | 30 => 142 | 31 => 166 | n => n, fun | 26 => 3 | 28 => 148 | 24 => 28 | 0 => 0 | 3 => 3 | 37 => 41 | 48 => 191 | 50 => 193 | 4 => 4 | 40 => 183 | 39 => 182 | 45 => 188 | 5 => 5 | 9 => 9 | 51 => 205 | 55 => 209 | 57 => 235 | 58 => 156 | 33 => 89 | n => n, fun | n => n⟩
theorem Yx : Go.Proofs.SlLaysZI.n6 prog UL where
 mixed := by kernel_rfl
 f6 := ⟨"slices.Sorted[int]", by decide, func72.trans (congrArg some (by kernel_rfl))⟩
 f8 := ⟨"slices.Collect[int]", by decide, func106.trans (congrArg some (by kernel_rfl))⟩
 f11 := ⟨"slices.AppendSeq[[]int,int]", by decide, func136.trans (congrArg some (by kernel_rfl))⟩
 t0 := underlying0
 a0 := Tryz.isAgg0
 z0 := Tryz.sizeOf0
 v0 := Tryz.zeroValue0
 t24 := underlying28
 a24 := Tryz.isAgg28
 z24 := Tryz.sizeOf28
 v24 := Tryz.zeroValue28
 t26 := underlying3
 a26 := Tryz.isAgg3
 z26 := Tryz.sizeOf3
 v26 := Tryz.zeroValue3
 t28 := underlying148
 a28 := Tryz.isAgg148
 z28 := Tryz.sizeOf148
 v28 := Tryz.zeroValue148
 i26 := by kernel_rfl
end Go.Proofs.YtfcpkcehecmcpaaGreat
namespace Go.Proofs.YtfcpkcehecmcpaaGreat
open Go Go.RowKit Go.Pv Go.Proofs.Tryz
open Go.Pv renaming bind_ok → Aa, Ug → Ab, Pq → Ae, Ut → Af, QY → Ag, XJ → Ah, Pw → Ai, WL → Aj, K7 → Ak, Uj → Al, Va → An, VG → Ap, Up → Aq, MP → Ar, OI → As, Vu → Au, Nw → Av, Nj → Aw, VI → Ax, Pe → Ay, LG → Az, U4 → Ba, Uu → Bc, QP → Bd, bool_split → Be, Vx → Bf, Pt → Bg, Om → Bh, TT → Bi, Pg → Bj, P4 → Bk
open Nat renaming le_of_ble_eq_true → Ac
open Bool renaming noConfusion → Ad
open Go.Pv.RV renaming blk → Am, tmp → Ao
open Go.Pv.QR renaming nil → Bb
theorem PP {w : World} {v0 v1 : Value} {a0 : List Int} {a1 : List Int} {r : Bool} (hr0 : Rd (Ty.int .i64) w [] v0 a0) (hr1 : Rd (Ty.int .i64) w [] v1 a1) (H : GY a0 a1 = some r) :
    Calls prog 11 #[v0, v1] w (B9 fun u_ w_ => u_ = .bool r ∧ SL w [] w_ []) := by
 have s0 : SL w [] w [] := SL.Bt w
 refine BD func11 ntmps11 9 rfl rfl rfl fun _ F => ?_
 unfold GY at H
 refine gx F (Ah rfl underlying28 (fR hr0 s0)) 1 rfl rfl fun _ F => gx F (Ah rfl underlying28 (fR hr1 s0)) 3 rfl rfl fun _ F => AH F H 7 6 rfl rfl rfl (fun h0 H _ F => ?_) (fun h0 H _ F => ?_)
 ·cases H
  exact rt F ⟨rfl, s0⟩
 obtain ⟨o0, H0, R0⟩ := Aa H
 clear H
 refine gx F (Ah rfl underlying28 (fR hr0 s0)) 3 rfl rfl fun _ F => BA (fun a w_ => ∃ p0 : Unit, o0 = .inr (p0) ∧ Fr a 26 [] ∧ SL w [] w_ []) ?_ ?_
 ·have H := H0
  refine gc 1 F rfl fun _ F => Cy (EG a0 a1) (fun s1 a w_ => Fr a 26 [(0, v0), (1, v1), (12, jI (a0.length : Int)), (13, jI s1)] ∧ SL w [] w_ []) H ?_ ?_
  ·exact ⟨F.sb, s0⟩
  intro s1 _ w0 h1 o1 H hr
  obtain ⟨F, s2⟩ := h1
  replace H : EG a0 a1 s1 = some o1 := H
  unfold EG at H
  refine gc 6 F rfl fun _ F => AH F H 11 4 rfl rfl rfl (fun h2 H _ F => ?_) (fun h2 H _ F => ?_)
  ·obtain ⟨x0, h3, H⟩ := Aa H
   obtain ⟨a2, h4, h5⟩ := FK (Flat.int .i64) (fun _ hC => (Eb hr0 hC)) s2 Bz rfl h3
   obtain ⟨x1, h6, H⟩ := Aa H
   obtain ⟨a3, h7, h8⟩ := FK (Flat.int .i64) (fun _ hC => (Eb hr1 hC)) s2 Bz rfl h6
   refine HA Bq s2 F (QR.ev 2 rfl <| QR.ix h4 rfl <| QR.qo (fun _ hC => An BE rfl (Bn.at_ (h5 _ hC) (o := 0) rfl)) rfl <| QR.ev 2 rfl <| QR.ix h7 rfl <| QR.qo (fun _ hC => An BE rfl (Bn.at_ (h8 _ hC) (o := 0) rfl)) rfl <| QR.ev 1 rfl <| Bb) fun w1 _ s3 F => ge 1 F rfl fun _ F => AH F H 12 7 rfl rfl rfl (fun h9 H _ F => ?_) (fun h9 H _ F => ?_)
   ·cases H
    obtain rfl := hr _ rfl
    replace H := R0
    try dsimp only at H
    cases H
    exact rt F ⟨rfl, s3⟩
   cases H
   exact ⟨_, rfl, F.sb, s3⟩
  cases H
  obtain rfl := hr _ rfl
  exact ⟨_, rfl, F.sb, s2⟩
 intro _ w2 hJ
 obtain ⟨p0, rfl, F, s4⟩ := hJ
 have H := R0
 clear R0 H0
 try dsimp only at H
 cases H
 exact ge 7 F rfl fun _ F => rt F ⟨rfl, s4⟩
theorem LU {w : World} {v0 v1 : Value} {a0 : List B6} {a1 : List B6} {r : Bool} (hr0 : Rd Ct w [] v0 a0) (hr1 : Rd Ct w [] v1 a1) (H : DC a0 a1 = some r) :
    Calls prog 53 #[v0, v1] w (B9 fun u_ w_ => u_ = .bool r ∧ SL w [] w_ []) := by
 have s0 : SL w [] w [] := SL.Bt w
 refine BD func53 ntmps53 9 rfl rfl rfl fun _ F => ?_
 unfold DC at H
 refine gx F (Ah rfl underlying101 (fR hr0 s0)) 1 rfl rfl fun _ F => gx F (Ah rfl underlying101 (fR hr1 s0)) 3 rfl rfl fun _ F => AH F H 7 6 rfl rfl rfl (fun h0 H _ F => ?_) (fun h0 H _ F => ?_)
 ·cases H
  exact rt F ⟨rfl, s0⟩
 obtain ⟨o0, H0, R0⟩ := Aa H
 clear H
 refine gx F (Ah rfl underlying101 (fR hr0 s0)) 3 rfl rfl fun _ F => BA (fun a w_ => ∃ p0 : Unit, o0 = .inr (p0) ∧ Fr a 26 [] ∧ SL w [] w_ []) ?_ ?_
 ·have H := H0
  refine gc 1 F rfl fun _ F => Cy (CH a0 a1) (fun s1 a w_ => Fr a 26 [(0, v0), (1, v1), (12, jI (a0.length : Int)), (13, jI s1)] ∧ SL w [] w_ []) H ?_ ?_
  ·exact ⟨F.sb, s0⟩
  intro s1 _ w0 h1 o1 H hr
  obtain ⟨F, s2⟩ := h1
  replace H : CH a0 a1 s1 = some o1 := H
  unfold CH at H
  refine gc 6 F rfl fun _ F => AH F H 11 4 rfl rfl rfl (fun h2 H _ F => ?_) (fun h2 H _ F => ?_)
  ·obtain ⟨x0, h3, H⟩ := Aa H
   obtain ⟨a2, h4, h5⟩ := FK DO (fun _ hC => (Eb hr0 hC)) s2 Hd rfl h3
   obtain ⟨x1, h6, H⟩ := Aa H
   obtain ⟨a3, h7, h8⟩ := FK DO (fun _ hC => (Eb hr1 hC)) s2 Hd rfl h6
   refine HA Bq s2 F (QR.ev 2 rfl <| QR.ix h4 rfl <| QR.qo (fun _ hC => Av NR rfl (h5 _ hC) rfl) rfl <| QR.ev 2 rfl <| QR.ix h7 rfl <| QR.qo (fun _ hC => Av NR rfl (h8 _ hC) rfl) rfl <| QR.qo (fun _ hC => SY (xs := [.string ⟨⟨x0.Name⟩⟩, jU (x0.GQ.toNat : Int)]) (ys := [.string ⟨⟨x1.Name⟩⟩, jU (x1.GQ.toNat : Int)]) Xz (by decide) rfl rfl (SI Xz Als (Bi rfl (Bj IC rfl) (Bj IC rfl) (EqAt.up (j := 1) (Aro underlying9) (by decide)) (Bi rfl (Bj BF rfl) (Bj BF rfl) (EqAt.up (j := 1) (Y7 underlying48) (by decide)) SR)))) rfl <| Bb) fun w1 _ s3 F => ?_
   refine ge 1 F rfl fun _ F => AH F H 12 7 rfl rfl rfl (fun h9 H _ F => ?_) (fun h9 H _ F => ?_)
   ·cases H
    obtain rfl := hr _ rfl
    replace H := R0
    try dsimp only at H
    cases H
    exact rt F ⟨rfl, s3⟩
   cases H
   exact ⟨_, rfl, F.sb, s3⟩
  cases H
  obtain rfl := hr _ rfl
  exact ⟨_, rfl, F.sb, s2⟩
 intro _ w2 hJ
 obtain ⟨p0, rfl, F, s4⟩ := hJ
 have H := R0
 clear R0 H0
 try dsimp only at H
 cases H
 exact ge 7 F rfl fun _ F => rt F ⟨rfl, s4⟩
theorem Oe {w : World} {v0 v1 : Value} {a0 : List A6} {a1 : List A6} {r : Bool} (hr0 : Rd AB w [] v0 a0) (hr1 : Rd AB w [] v1 a1) (H : FB a0 a1 = some r) :
    Calls prog 31 #[v0, v1] w (B9 fun u_ w_ => u_ = .bool r ∧ SL w [] w_ []) := by
 have s0 : SL w [] w [] := SL.Bt w
 refine BD func31 ntmps31 9 rfl rfl rfl fun _ F => ?_
 unfold FB at H
 refine gx F (Ah rfl underlying22 (fR hr0 s0)) 1 rfl rfl fun _ F => gx F (Ah rfl underlying22 (fR hr1 s0)) 3 rfl rfl fun _ F => AH F H 7 6 rfl rfl rfl (fun h0 H _ F => ?_) (fun h0 H _ F => ?_)
 ·cases H
  exact rt F ⟨rfl, s0⟩
 obtain ⟨o0, H0, R0⟩ := Aa H
 clear H
 refine gx F (Ah rfl underlying22 (fR hr0 s0)) 3 rfl rfl fun _ F => BA (fun a w_ => ∃ p0 : Unit, o0 = .inr (p0) ∧ Fr a 55 [] ∧ SL w [] w_ []) ?_ ?_
 ·have H := H0
  refine gc 1 F rfl fun _ F => Cy (DN a0 a1) (fun s1 a w_ => Fr a 55 [(0, v0), (1, v1), (12, jI (a0.length : Int)), (13, jI s1)] ∧ SL w [] w_ []) H ?_ ?_
  ·exact ⟨F.sb, s0⟩
  intro s1 _ w0 h1 o1 H hr
  obtain ⟨F, s2⟩ := h1
  replace H : DN a0 a1 s1 = some o1 := H
  unfold DN at H
  refine gc 6 F rfl fun _ F => AH F H 11 4 rfl rfl rfl (fun h2 H _ F => ?_) (fun h2 H _ F => ?_)
  ·obtain ⟨x0, h3, H⟩ := Aa H
   obtain ⟨a2, c0, G0, h4, h5, h6, h7⟩ := Rd.idx hr0 D5 rfl h3
   obtain ⟨v2, rfl, h8⟩ := (C7 h6 h7)
   have hc4631_ := h5; clear h5; have h5 := fun w_ (hC : SL w [] w_ []) => hc4631_ _ _ hC
   obtain ⟨x1, h9, H⟩ := Aa H
   obtain ⟨a3, c1, G1, ha, hb, hc, hd⟩ := Rd.idx hr1 D5 rfl h9
   obtain ⟨v3, rfl, he⟩ := (C7 hc hd)
   have hc4642_ := hb; clear hb; have hb := fun w_ (hC : SL w [] w_ []) => hc4642_ _ _ hC
   refine Be (x0.Name != x1.Name) (fun hf => ?_) (fun hf => ?_)
   ·replace H := Mt hf H
    refine HA Bq s2 F (QR.ev 2 rfl <| QR.ix h4 rfl <| QR.qo (fun _ hC => Ba K0 rfl) rfl <| QR.qo (fun _ hC => An IC rfl (Bn.at_ (h5 _ hC) (o := 0) rfl)) rfl <| QR.ev 2 rfl <| QR.ix ha rfl <| QR.qo (fun _ hC => Ba K0 rfl) rfl <| QR.qo (fun _ hC => An IC rfl (Bn.at_ (hb _ hC) (o := 0) rfl)) rfl <| QR.qo (fun _ hC => UP rfl rfl) rfl <| QR.ev 1 rfl <| QR.qs rfl rfl (Aj rfl hf) Ad rfl rfl <| QR.qs rfl rfl (Aj rfl hf) Ad rfl rfl <| QR.qs rfl rfl (Aj rfl hf) Ad rfl rfl <| QR.qs rfl rfl (Aj rfl hf) Ad rfl rfl <| QR.qs rfl rfl (Aj rfl hf) Ad rfl rfl <| QR.qs rfl rfl (Aj rfl hf) Ad rfl rfl <| QR.qs rfl rfl (Aj rfl hf) Ad rfl rfl <| QR.qs rfl rfl (Aj rfl hf) Ad rfl rfl <| QR.qs rfl rfl (Aj rfl hf) Ad rfl rfl <| QR.qs rfl rfl (Aj rfl hf) Ad rfl rfl <| QR.qs rfl rfl (Aj rfl hf) Ad rfl rfl <| QR.qo (fun _ hC => Bg (KC rfl hf) rfl) rfl <| QR.ev 1 rfl <| QR.qs rfl rfl rfl Ad rfl rfl <| QR.qs rfl rfl rfl Ad rfl rfl <| QR.qs rfl rfl rfl Ad rfl rfl <| QR.qs rfl rfl rfl Ad rfl rfl <| QR.qs rfl rfl rfl Ad rfl rfl <| QR.qs rfl rfl rfl Ad rfl rfl <| QR.qs rfl rfl rfl Ad rfl rfl <| QR.qs rfl rfl rfl Ad rfl rfl <| QR.qs rfl rfl rfl Ad rfl rfl <| QR.qs rfl rfl rfl Ad rfl rfl <| QR.qs rfl rfl rfl Ad rfl rfl <| QR.qs rfl rfl rfl Ad rfl rfl <| QR.qo (fun _ hC => Bg rfl rfl) rfl <| Bb) fun w1 _ s3 F => ?_
    cases H
    obtain rfl := hr _ rfl
    replace H := R0
    try dsimp only at H
    cases H
    exact ge 14 F rfl fun _ F => rt F ⟨rfl, s3⟩
   replace H := Ms hf H
   obtain ⟨x2, hg, H⟩ := Aa H
   obtain ⟨a4, c2, G2, hh, hi, hj, hk⟩ := Rd.idx hr0 D5 rfl hg
   obtain ⟨v4, rfl, hl⟩ := (C7 hj hk)
   have hc4660_ := hi; clear hi; have hi := fun w_ (hC : SL w [] w_ []) => hc4660_ _ _ hC
   obtain ⟨x3, hm, H⟩ := Aa H
   obtain ⟨a5, c3, G3, hn, ho, hp, hq⟩ := Rd.idx hr1 D5 rfl hm
   obtain ⟨v5, rfl, hs⟩ := (C7 hp hq)
   have hc4671_ := ho; clear ho; have ho := fun w_ (hC : SL w [] w_ []) => hc4671_ _ _ hC
   refine Be (x2.B2 != x3.B2) (fun ht => ?_) (fun ht => ?_)
   ·replace H := Mt ht H
    refine HA Bq s2 F (QR.ev 2 rfl <| QR.ix h4 rfl <| QR.qo (fun _ hC => Ba K0 rfl) rfl <| QR.qo (fun _ hC => An IC rfl (Bn.at_ (h5 _ hC) (o := 0) rfl)) rfl <| QR.ev 2 rfl <| QR.ix ha rfl <| QR.qo (fun _ hC => Ba K0 rfl) rfl <| QR.qo (fun _ hC => An IC rfl (Bn.at_ (hb _ hC) (o := 0) rfl)) rfl <| QR.qo (fun _ hC => UP rfl rfl) rfl <| QR.ev 1 rfl <| QR.qg (fun _ hC => Az rfl) rfl rfl (Aj rfl hf) rfl rfl <| QR.qg (fun _ hC => Az rfl) rfl rfl (Aj rfl hf) rfl rfl <| QR.qg (fun _ hC => hh _ _ _ _ _ _ _ _ _ _ rfl rfl) rfl rfl (Aj rfl hf) rfl rfl <| QR.qg (fun _ hC => Ba HF rfl) rfl rfl (Aj rfl hf) rfl rfl <| QR.qg (fun _ hC => An BE rfl (Bn.at_ (hi _ hC) (o := 1) rfl)) rfl rfl (Aj rfl hf) rfl rfl <| QR.qg (fun _ hC => Az rfl) rfl rfl (Aj rfl hf) rfl rfl <| QR.qg (fun _ hC => Az rfl) rfl rfl (Aj rfl hf) rfl rfl <| QR.qg (fun _ hC => hn _ _ _ _ _ _ _ _ _ _ rfl rfl) rfl rfl (Aj rfl hf) rfl rfl <| QR.qg (fun _ hC => Ba HF rfl) rfl rfl (Aj rfl hf) rfl rfl <| QR.qg (fun _ hC => An BE rfl (Bn.at_ (ho _ hC) (o := 1) rfl)) rfl rfl (Aj rfl hf) rfl rfl <| QR.qg (fun _ hC => Oy rfl rfl) rfl rfl (Aj rfl hf) rfl rfl <| QR.qo (fun _ hC => Bk (KC rfl hf) rfl) rfl <| QR.ev 1 rfl <| QR.qs rfl rfl (Aj rfl ht) Ad rfl rfl <| QR.qs rfl rfl (Aj rfl ht) Ad rfl rfl <| QR.qs rfl rfl (Aj rfl ht) Ad rfl rfl <| QR.qs rfl rfl (Aj rfl ht) Ad rfl rfl <| QR.qs rfl rfl (Aj rfl ht) Ad rfl rfl <| QR.qs rfl rfl (Aj rfl ht) Ad rfl rfl <| QR.qs rfl rfl (Aj rfl ht) Ad rfl rfl <| QR.qs rfl rfl (Aj rfl ht) Ad rfl rfl <| QR.qs rfl rfl (Aj rfl ht) Ad rfl rfl <| QR.qs rfl rfl (Aj rfl ht) Ad rfl rfl <| QR.qs rfl rfl (Aj rfl ht) Ad rfl rfl <| QR.qs rfl rfl (Aj rfl ht) Ad rfl rfl <| QR.qo (fun _ hC => Bg (KC rfl ht) rfl) rfl <| Bb) fun w2 _ s4 F => ?_
    cases H
    obtain rfl := hr _ rfl
    replace H := R0
    try dsimp only at H
    cases H
    exact ge 14 F rfl fun _ F => rt F ⟨rfl, s4⟩
   replace H := Ms ht H
   obtain ⟨x4, hu, H⟩ := Aa H
   obtain ⟨a6, c4, G4, hv, hw, hx, hy⟩ := Rd.idx hr0 D5 rfl hu
   obtain ⟨v6, rfl, hz⟩ := (C7 hx hy)
   have hc4689_ := hw; clear hw; have hw := fun w_ (hC : SL w [] w_ []) => hc4689_ _ _ hC
   obtain ⟨x5, h10, H⟩ := Aa H
   obtain ⟨a7, c5, G5, h11, h12, h13, h14⟩ := Rd.idx hr1 D5 rfl h10
   obtain ⟨v7, rfl, h15⟩ := (C7 h13 h14)
   have hc4700_ := h12; clear h12; have h12 := fun w_ (hC : SL w [] w_ []) => hc4700_ _ _ hC
   obtain ⟨x6, h16, H⟩ := Aa H
   refine HA Bq s2 F (QR.ev 2 rfl <| QR.ix h4 rfl <| QR.qo (fun _ hC => Ba K0 rfl) rfl <| QR.qo (fun _ hC => An IC rfl (Bn.at_ (h5 _ hC) (o := 0) rfl)) rfl <| QR.ev 2 rfl <| QR.ix ha rfl <| QR.qo (fun _ hC => Ba K0 rfl) rfl <| QR.qo (fun _ hC => An IC rfl (Bn.at_ (hb _ hC) (o := 0) rfl)) rfl <| QR.qo (fun _ hC => UP rfl rfl) rfl <| QR.ev 1 rfl <| QR.qg (fun _ hC => Az rfl) rfl rfl (Aj rfl hf) rfl rfl <| QR.qg (fun _ hC => Az rfl) rfl rfl (Aj rfl hf) rfl rfl <| QR.qg (fun _ hC => hh _ _ _ _ _ _ _ _ _ _ rfl rfl) rfl rfl (Aj rfl hf) rfl rfl <| QR.qg (fun _ hC => Ba HF rfl) rfl rfl (Aj rfl hf) rfl rfl <| QR.qg (fun _ hC => An BE rfl (Bn.at_ (hi _ hC) (o := 1) rfl)) rfl rfl (Aj rfl hf) rfl rfl <| QR.qg (fun _ hC => Az rfl) rfl rfl (Aj rfl hf) rfl rfl <| QR.qg (fun _ hC => Az rfl) rfl rfl (Aj rfl hf) rfl rfl <| QR.qg (fun _ hC => hn _ _ _ _ _ _ _ _ _ _ rfl rfl) rfl rfl (Aj rfl hf) rfl rfl <| QR.qg (fun _ hC => Ba HF rfl) rfl rfl (Aj rfl hf) rfl rfl <| QR.qg (fun _ hC => An BE rfl (Bn.at_ (ho _ hC) (o := 1) rfl)) rfl rfl (Aj rfl hf) rfl rfl <| QR.qg (fun _ hC => Oy rfl rfl) rfl rfl (Aj rfl hf) rfl rfl <| QR.qo (fun _ hC => Bk (KC rfl hf) rfl) rfl <| QR.ev 1 rfl <| QR.qg (fun _ hC => Az rfl) rfl rfl (Aj rfl ht) rfl rfl <| QR.qg (fun _ hC => Az rfl) rfl rfl (Aj rfl ht) rfl rfl <| QR.qg (fun _ hC => hv _ _ _ _ _ _ _ _ _ _ rfl rfl) rfl rfl (Aj rfl ht) rfl rfl <| QR.qg (fun _ hC => Ba Ku rfl) rfl rfl (Aj rfl ht) rfl rfl <| QR.qg (fun _ hC => An Lp rfl (Bn.at_ (hw _ hC) (o := 2) rfl)) rfl rfl (Aj rfl ht) rfl rfl <| QR.qg (fun _ hC => Az rfl) rfl rfl (Aj rfl ht) rfl rfl <| QR.qg (fun _ hC => Az rfl) rfl rfl (Aj rfl ht) rfl rfl <| QR.qg (fun _ hC => h11 _ _ _ _ _ _ _ _ _ _ rfl rfl) rfl rfl (Aj rfl ht) rfl rfl <| QR.qg (fun _ hC => Ba Ku rfl) rfl rfl (Aj rfl ht) rfl rfl <| QR.qg (fun _ hC => An Lp rfl (Bn.at_ (h12 _ hC) (o := 2) rfl)) rfl rfl (Aj rfl ht) rfl rfl <| QR.ZF rfl (Aj rfl ht) (args := [.tmp 45, .tmp 50]) A5s rfl (fun _ hC => Bf (LU (a0 := x4.Fields) (a1 := x5.Fields) (hz.AN hC) (h15.AN hC) h16) hC) <| QR.qg (fun _ hC => Acj rfl) rfl rfl (Aj rfl ht) rfl rfl <| QR.qo (fun _ hC => Bk (KC rfl ht) rfl) rfl <| Bb) fun w3 _ s5 F => ?_
   refine ge 1 F rfl fun _ F => AH F H 12 7 rfl rfl rfl (fun h17 H _ F => ?_) (fun h17 H _ F => ?_)
   ·cases H
    obtain rfl := hr _ rfl
    replace H := R0
    try dsimp only at H
    cases H
    exact rt F ⟨rfl, s5⟩
   cases H
   exact ⟨_, rfl, F.sb, s5⟩
  cases H
  obtain rfl := hr _ rfl
  exact ⟨_, rfl, F.sb, s2⟩
 intro _ w4 hJ
 obtain ⟨p0, rfl, F, s6⟩ := hJ
 have H := R0
 clear R0 H0
 try dsimp only at H
 cases H
 exact ge 7 F rfl fun _ F => rt F ⟨rfl, s6⟩
theorem Ly {w : World} {v0 v1 : Value} {a0 : List UInt8} {a1 : List UInt8} {r : Bool} (hr0 : Rd Ty.u8 w [] v0 a0) (hr1 : Rd Ty.u8 w [] v1 a1) (H : EV a0 a1 = some r) :
    Calls prog 33 #[v0, v1] w (B9 fun u_ w_ => u_ = .bool r ∧ SL w [] w_ []) := by
 have s0 : SL w [] w [] := SL.Bt w
 refine BD func33 ntmps33 9 rfl rfl rfl fun _ F => ?_
 unfold EV at H
 refine gx F (Ah rfl underlying42 (fR hr0 s0)) 1 rfl rfl fun _ F => gx F (Ah rfl underlying42 (fR hr1 s0)) 3 rfl rfl fun _ F => AH F H 7 6 rfl rfl rfl (fun h0 H _ F => ?_) (fun h0 H _ F => ?_)
 ·cases H
  exact rt F ⟨rfl, s0⟩
 obtain ⟨o0, H0, R0⟩ := Aa H
 clear H
 refine gx F (Ah rfl underlying42 (fR hr0 s0)) 3 rfl rfl fun _ F => BA (fun a w_ => ∃ p0 : Unit, o0 = .inr (p0) ∧ Fr a 26 [] ∧ SL w [] w_ []) ?_ ?_
 ·have H := H0
  refine gc 1 F rfl fun _ F => Cy (Ei a0 a1) (fun s1 a w_ => Fr a 26 [(0, v0), (1, v1), (12, jI (a0.length : Int)), (13, jI s1)] ∧ SL w [] w_ []) H ?_ ?_
  ·exact ⟨F.sb, s0⟩
  intro s1 _ w0 h1 o1 H hr
  obtain ⟨F, s2⟩ := h1
  replace H : Ei a0 a1 s1 = some o1 := H
  unfold Ei at H
  refine gc 6 F rfl fun _ F => AH F H 11 4 rfl rfl rfl (fun h2 H _ F => ?_) (fun h2 H _ F => ?_)
  ·obtain ⟨x0, h3, H⟩ := Aa H
   obtain ⟨a2, h4, h5⟩ := FK Flat.u8 (fun _ hC => (Eb hr0 hC)) s2 DX rfl h3
   obtain ⟨x1, h6, H⟩ := Aa H
   obtain ⟨a3, h7, h8⟩ := FK Flat.u8 (fun _ hC => (Eb hr1 hC)) s2 DX rfl h6
   refine HA Bq s2 F (QR.ev 2 rfl <| QR.ix h4 rfl <| QR.qo (fun _ hC => An LJ rfl (Bn.at_ (h5 _ hC) (o := 0) rfl)) rfl <| QR.ev 2 rfl <| QR.ix h7 rfl <| QR.qo (fun _ hC => An LJ rfl (Bn.at_ (h8 _ hC) (o := 0) rfl)) rfl <| QR.ev 1 rfl <| Bb) fun w1 _ s3 F => ge 1 F rfl fun _ F => AH F H 12 7 rfl rfl rfl (fun h9 H _ F => ?_) (fun h9 H _ F => ?_)
   ·cases H
    obtain rfl := hr _ rfl
    replace H := R0
    try dsimp only at H
    cases H
    exact rt F ⟨rfl, s3⟩
   cases H
   exact ⟨_, rfl, F.sb, s3⟩
  cases H
  obtain rfl := hr _ rfl
  exact ⟨_, rfl, F.sb, s2⟩
 intro _ w2 hJ
 obtain ⟨p0, rfl, F, s4⟩ := hJ
 have H := R0
 clear R0 H0
 try dsimp only at H
 cases H
 exact ge 7 F rfl fun _ F => rt F ⟨rfl, s4⟩
theorem Mz {w : World} {v0 v1 : Value} {a0 : List UInt8} {a1 : List UInt8} {r : Bool} (hr0 : Rd Ty.u8 w [] v0 a0) (hr1 : Rd Ty.u8 w [] v1 a1) (H : Ed a0 a1 = some r) :
    Calls prog 79 #[v0, v1] w (B9 fun u_ w_ => u_ = .bool r ∧ SL w [] w_ []) := by
 have s0 : SL w [] w [] := SL.Bt w
 refine BD func79 ntmps79 9 rfl rfl rfl fun _ F => ?_
 unfold Ed at H
 refine gx F (Ah rfl underlying47 (fR hr0 s0)) 1 rfl rfl fun _ F => gx F (Ah rfl underlying47 (fR hr1 s0)) 3 rfl rfl fun _ F => AH F H 7 6 rfl rfl rfl (fun h0 H _ F => ?_) (fun h0 H _ F => ?_)
 ·cases H
  exact rt F ⟨rfl, s0⟩
 obtain ⟨o0, H0, R0⟩ := Aa H
 clear H
 refine gx F (Ah rfl underlying47 (fR hr0 s0)) 3 rfl rfl fun _ F => BA (fun a w_ => ∃ p0 : Unit, o0 = .inr (p0) ∧ Fr a 26 [] ∧ SL w [] w_ []) ?_ ?_
 ·have H := H0
  refine gc 1 F rfl fun _ F => Cy (CX a0 a1) (fun s1 a w_ => Fr a 26 [(0, v0), (1, v1), (12, jI (a0.length : Int)), (13, jI s1)] ∧ SL w [] w_ []) H ?_ ?_
  ·exact ⟨F.sb, s0⟩
  intro s1 _ w0 h1 o1 H hr
  obtain ⟨F, s2⟩ := h1
  replace H : CX a0 a1 s1 = some o1 := H
  unfold CX at H
  refine gc 6 F rfl fun _ F => AH F H 11 4 rfl rfl rfl (fun h2 H _ F => ?_) (fun h2 H _ F => ?_)
  ·obtain ⟨x0, h3, H⟩ := Aa H
   obtain ⟨a2, h4, h5⟩ := FK Flat.u8 (fun _ hC => (Eb hr0 hC)) s2 Br rfl h3
   obtain ⟨x1, h6, H⟩ := Aa H
   obtain ⟨a3, h7, h8⟩ := FK Flat.u8 (fun _ hC => (Eb hr1 hC)) s2 Br rfl h6
   refine HA Bq s2 F (QR.ev 2 rfl <| QR.ix h4 rfl <| QR.qo (fun _ hC => An BF rfl (Bn.at_ (h5 _ hC) (o := 0) rfl)) rfl <| QR.ev 2 rfl <| QR.ix h7 rfl <| QR.qo (fun _ hC => An BF rfl (Bn.at_ (h8 _ hC) (o := 0) rfl)) rfl <| QR.ev 1 rfl <| Bb) fun w1 _ s3 F => ge 1 F rfl fun _ F => AH F H 12 7 rfl rfl rfl (fun h9 H _ F => ?_) (fun h9 H _ F => ?_)
   ·cases H
    obtain rfl := hr _ rfl
    replace H := R0
    try dsimp only at H
    cases H
    exact rt F ⟨rfl, s3⟩
   cases H
   exact ⟨_, rfl, F.sb, s3⟩
  cases H
  obtain rfl := hr _ rfl
  exact ⟨_, rfl, F.sb, s2⟩
 intro _ w2 hJ
 obtain ⟨p0, rfl, F, s4⟩ := hJ
 have H := R0
 clear R0 H0
 try dsimp only at H
 cases H
 exact ge 7 F rfl fun _ F => rt F ⟨rfl, s4⟩
theorem PO {w : World} {v0_0 v1_0 : Value} {a0 : Bl} {a1 : Bl} {r : Bool} (hr0_0 : Rd Ty.u8 w [] v0_0 a0.Bv) (hr1_0 : Rd Ty.u8 w [] v1_0 a1.Bv) (H : Hf a0 a1 = some r) :
    Calls prog 54 #[.agg ⟨[v0_0, jU (a0.Result.toNat : Int)]⟩, .agg ⟨[v1_0, jU (a1.Result.toNat : Int)]⟩] w (B9 fun u_ w_ => u_ = .bool r ∧ SL w [] w_ []) := by
 have s0 : SL w [] w [] := SL.Bt w
 refine BD func54 ntmps54 2 rfl rfl rfl fun _ F0 => ?_
 unfold Hf at H
 refine Ar F0 s0 rfl rfl rfl fun g0 w0 _ F s1 => Ar F s1 rfl rfl rfl fun g1 w1 _ F s2 => gw 6 F rfl fun _ F => AG F s2 m1 1 rfl fun _ F => AG F s2 m0 2 rfl fun _ F => BB 10 F H (fun h0 H F => ?_) (fun h0 H F => ?_)
 ·refine gw 1 F rfl fun _ F => AK F rfl rfl <| AG F s2 m1 1 rfl fun _ F => AK F rfl rfl <| AG F s2 m0 0 rfl fun _ F => ?_
  obtain ⟨x0, h1, H⟩ := Aa H
  refine AK F rfl rfl <| B5 F s2 (Mz (hr0_0.AN s2) (hr1_0.AN s2) h1) 5 rfl rfl rfl rfl fun w2 _ F s3 => ?_
  cases H
  exact rt F ⟨rfl, s3.drop.drop⟩
 cases H
 exact gw 10 F rfl fun _ F => rt F ⟨rfl, s2.drop.drop⟩
theorem Po {w : World} {v0_1 v0_4 v1_1 v1_4 : Value} {a0 : BX} {a1 : BX} {r : Bool} (hr0_1 : Rd Ty.u8 w [] v0_1 a0.Sig.Bv) (hr0_4 : Rd Ty.u8 w [] v0_4 a0.Code) (hr1_1 : Rd Ty.u8 w [] v1_1 a1.Sig.Bv) (hr1_4 : Rd Ty.u8 w [] v1_4 a1.Code) (H : GE a0 a1 = some r) :
    Calls prog 32 #[.agg ⟨[.string ⟨⟨a0.Name⟩⟩, v0_1, jU (a0.Sig.Result.toNat : Int), jI a0.Locals, v0_4]⟩, .agg ⟨[.string ⟨⟨a1.Name⟩⟩, v1_1, jU (a1.Sig.Result.toNat : Int), jI a1.Locals, v1_4]⟩] w (B9 fun u_ w_ => u_ = .bool r ∧ SL w [] w_ []) := by
 have s0 : SL w [] w [] := SL.Bt w
 refine BD func32 ntmps32 2 rfl rfl rfl fun _ F0 => ?_
 unfold GE at H
 refine Ar F0 s0 rfl rfl rfl fun g0 w0 _ F s1 => Ar F s1 rfl rfl rfl fun g1 w1 _ F s2 => gw 6 F rfl fun _ F => AG F s2 m1 1 rfl fun _ F => AG F s2 m0 0 rfl fun _ F => gx F (Qg rfl rfl) 1 rfl rfl fun _ F => BB 10 F H (fun h0 H F => ?_) (fun h0 H F => ?_)
 ·refine gw 1 F rfl fun _ F => AK F rfl rfl <| gx F (Av J1 rfl (s2.Dk m1 (o := 1) (ds := [v0_1, jU (a0.Sig.Result.toNat : Int)]) (OR _ rfl)) rfl) 1 rfl rfl fun _ F => AK F rfl rfl <| gx F (Av J1 rfl (s2.Dk m0 (o := 1) (ds := [v1_1, jU (a1.Sig.Result.toNat : Int)]) (OR _ rfl)) rfl) 0 rfl rfl fun _ F => ?_
  obtain ⟨x0, h1, H⟩ := Aa H
  refine AK F rfl rfl <| B5 F s2 (PO (a0 := (⟨a0.Sig.Bv, a0.Sig.Result⟩ : Bl)) (a1 := (⟨a1.Sig.Bv, a1.Sig.Result⟩ : Bl)) (hr0_1.AN s2) (hr1_1.AN s2) h1) 2 rfl rfl rfl rfl fun w2 _ F s3 => BB 17 F H (fun h2 H F => ?_) (fun h2 H F => ?_)
  ·refine gw 1 F rfl fun _ F => AK F rfl rfl <| AG F s3 m1 1 rfl fun _ F => AK F rfl rfl <| AG F s3 m0 3 rfl fun _ F => BB 24 F H (fun h3 H F => ?_) (fun h3 H F => ?_)
   ·refine gw 1 F rfl fun _ F => AK F rfl rfl <| AG F s3 m1 1 rfl fun _ F => AK F rfl rfl <| AG F s3 m0 0 rfl fun _ F => ?_
    obtain ⟨x1, h4, H⟩ := Aa H
    refine AK F rfl rfl <| B5 F s3 (Ly (hr0_4.AN s3) (hr1_4.AN s3) h4) 5 rfl rfl rfl rfl fun w3 _ F s4 => ?_
    cases H
    exact rt F ⟨rfl, s4.drop.drop⟩
   cases H
   exact gw 10 F rfl fun _ F => rt F ⟨rfl, s3.drop.drop⟩
  cases H
  exact gw 17 F rfl fun _ F => rt F ⟨rfl, s3.drop.drop⟩
 cases H
 exact gw 24 F rfl fun _ F => rt F ⟨rfl, s2.drop.drop⟩
theorem O7 {w : World} {v0_1 v0_2 v0_3 v1_1 v1_2 v1_3 : Value} {a0 : AL} {a1 : AL} {r : Bool} (hr0_1 : Rd AB w [] v0_1 a0.Classes) (hr0_2 : Rd Cc w [] v0_2 a0.Funcs) (hr0_3 : Rd (Ty.slice Ty.u8) w [] v0_3 a0.Ca) (hr1_1 : Rd AB w [] v1_1 a1.Classes) (hr1_2 : Rd Cc w [] v1_2 a1.Funcs) (hr1_3 : Rd (Ty.slice Ty.u8) w [] v1_3 a1.Ca) (H : FU a0 a1 = some r) :
    Calls prog 12 #[.agg ⟨[.string ⟨⟨a0.Name⟩⟩, v0_1, v0_2, v0_3]⟩, .agg ⟨[.string ⟨⟨a1.Name⟩⟩, v1_1, v1_2, v1_3]⟩] w (B9 fun u_ w_ => u_ = .bool r ∧ SL w [] w_ []) := by
 have s0 : SL w [] w [] := SL.Bt w
 refine BD func12 ntmps12 2 rfl rfl rfl fun _ F0 => ?_
 unfold FU at H
 refine Ar F0 s0 rfl rfl rfl fun g0 w0 _ F s1 => Ar F s1 rfl rfl rfl fun g1 w1 _ F s2 => gw 7 F rfl fun _ F => AG F s2 m1 1 rfl fun _ F => AG F s2 m0 0 rfl fun _ F => gx F (UP rfl rfl) 1 rfl rfl fun _ F => BB 12 F H (fun h0 H F => ?_) (fun h0 H F => ?_)
 ·cases H
  exact gw 35 F rfl fun _ F => rt F ⟨rfl, s2.drop.drop⟩
 refine gw 1 F rfl fun _ F => AK F rfl rfl <| AG F s2 m1 1 rfl fun _ F => AK F rfl rfl <| AG F s2 m0 0 rfl fun _ F => ?_
 obtain ⟨x0, h1, H⟩ := Aa H
 refine AK F rfl rfl <| B5 F s2 (Oe (hr0_1.AN s2) (hr1_1.AN s2) h1) 3 rfl rfl rfl rfl fun w2 _ F s3 => BB 20 F H (fun h2 H F => ?_) (fun h2 H F => ?_)
 ·cases H
  exact gw 27 F rfl fun _ F => rt F ⟨rfl, s3.drop.drop⟩
 refine gw 1 F rfl fun _ F => AK F rfl rfl <| AG F s3 m1 0 rfl fun _ F => AK F rfl rfl <| gx F (Ah rfl underlying23 (fR hr0_2 s3)) 1 rfl rfl fun _ F => AK F rfl rfl <| AG F s3 m0 0 rfl fun _ F => AK F rfl rfl <| gx F (Ah rfl underlying23 (fR hr1_2 s3)) 3 rfl rfl fun _ F => BB 29 F H (fun h3 H F => ?_) (fun h3 H F => ?_)
 ·cases H
  exact gw 18 F rfl fun _ F => rt F ⟨rfl, s3.drop.drop⟩
 refine gw 1 F rfl fun _ F => AK F rfl rfl <| AG F s3 m1 0 rfl fun _ F => AK F rfl rfl <| gx F (Ah rfl underlying24 (fR hr0_3 s3)) 1 rfl rfl fun _ F => AK F rfl rfl <| AG F s3 m0 0 rfl fun _ F => AK F rfl rfl <| gx F (Ah rfl underlying24 (fR hr1_3 s3)) 4 rfl rfl fun _ F => AH F H 7 6 rfl rfl rfl (fun h4 H _ F => ?_) (fun h4 H _ F => ?_)
 ·cases H
  exact rt F ⟨rfl, s3.drop.drop⟩
 refine AG F s3 m1 0 rfl fun _ F => ?_
 obtain ⟨o0, H0, R0⟩ := Aa H
 clear H
 refine gx F (Ah rfl underlying23 (fR hr0_2 s3)) 3 rfl rfl fun _ F => BA (fun a w_ => ∃ p0 : Unit, o0 = .inr (p0) ∧ Fr a 76 [(2, jP g0), (3, jP g1)] ∧ SL w [] w_ [A8 g1 26 [.string ⟨⟨a1.Name⟩⟩, v1_1, v1_2, v1_3], A8 g0 26 [.string ⟨⟨a0.Name⟩⟩, v0_1, v0_2, v0_3]]) ?_ ?_
 ·have H := H0
  refine gc 1 F rfl fun _ F => Cy (DV a0 a1) (fun s4 a w_ => Fr a 76 [(2, jP g0), (3, jP g1), (40, jI (a0.Funcs.length : Int)), (41, jI s4)] ∧ SL w [] w_ [A8 g1 26 [.string ⟨⟨a1.Name⟩⟩, v1_1, v1_2, v1_3], A8 g0 26 [.string ⟨⟨a0.Name⟩⟩, v0_1, v0_2, v0_3]]) H ?_ ?_
  ·exact ⟨F.sb, s3⟩
  intro s4 _ w3 h5 o1 H hr
  obtain ⟨F, s5⟩ := h5
  replace H : DV a0 a1 s4 = some o1 := H
  unfold DV at H
  refine gc 6 F rfl fun _ F => AH F H 11 4 rfl rfl rfl (fun h6 H _ F => ?_) (fun h6 H _ F => ?_)
  ·obtain ⟨x1, h7, H⟩ := Aa H
   obtain ⟨a2, c0, G0, h8, h9, ha, hb⟩ := Rd.idx hr0_2 Ke rfl h7
   obtain ⟨v0, v1, rfl, hc, hd⟩ := (Jv ha hb)
   have hc3755_ := h9; clear h9; have h9 := fun w_ (hC : SL w [] w_ [A8 g1 26 [.string ⟨⟨a1.Name⟩⟩, v1_1, v1_2, v1_3], A8 g0 26 [.string ⟨⟨a0.Name⟩⟩, v0_1, v0_2, v0_3]]) => hc3755_ _ _ hC
   obtain ⟨x2, he, H⟩ := Aa H
   obtain ⟨a3, c1, G1, hf, hg, hh, hi⟩ := Rd.idx hr1_2 Ke rfl he
   obtain ⟨v2, v3, rfl, hj, hk⟩ := (Jv hh hi)
   have hc3768_ := hg; clear hg; have hg := fun w_ (hC : SL w [] w_ [A8 g1 26 [.string ⟨⟨a1.Name⟩⟩, v1_1, v1_2, v1_3], A8 g0 26 [.string ⟨⟨a0.Name⟩⟩, v0_1, v0_2, v0_3]]) => hc3768_ _ _ hC
   obtain ⟨x3, hl, H⟩ := Aa H
   refine HA Bq s5 F (QR.ev 1 rfl <| QR.ld m1 rfl <| QR.ev 1 rfl <| QR.ix h8 rfl <| QR.qo (fun _ hC => Av My rfl (h9 _ hC) rfl) rfl <| QR.ev 1 rfl <| QR.ld m0 rfl <| QR.ev 1 rfl <| QR.ix hf rfl <| QR.qo (fun _ hC => Av My rfl (hg _ hC) rfl) rfl <| QR.call (args := [.tmp 48, .tmp 53]) Auh rfl (fun _ hC => Bf (Po (a0 := x1) (a1 := x2) (hc.AN hC) (hd.AN hC) (hj.AN hC) (hk.AN hC) hl) hC) <| QR.ev 1 rfl <| Bb) fun w4 _ s6 F => ge 1 F rfl fun _ F => AH F H 12 7 rfl rfl rfl (fun hm H _ F => ?_) (fun hm H _ F => ?_)
   ·cases H
    obtain rfl := hr _ rfl
    replace H := R0
    try dsimp only at H
    cases H
    exact rt F ⟨rfl, s6.drop.drop⟩
   cases H
   exact ⟨_, rfl, F.sb, s6⟩
  cases H
  obtain rfl := hr _ rfl
  exact ⟨_, rfl, F.sb, s5⟩
 intro _ w5 hJ
 obtain ⟨p0, rfl, F, s7⟩ := hJ
 have H := R0
 clear R0 H0
 try dsimp only at H
 refine ge 5 F rfl fun _ F => AG F s7 m1 0 rfl fun _ F => ?_
 obtain ⟨o2, H1, R1⟩ := Aa H
 clear H
 refine gx F (Ah rfl underlying24 (fR hr0_3 s7)) 3 rfl rfl fun _ F => BA (fun a w_ => ∃ p1 : Unit, o2 = .inr (p1) ∧ Fr a 76 [] ∧ SL w [] w_ []) ?_ ?_
 ·have H := H1
  refine gc 1 F rfl fun _ F => Cy (DW a0 a1) (fun s8 a w_ => Fr a 76 [(2, jP g0), (3, jP g1), (59, jI (a0.Ca.length : Int)), (60, jI s8)] ∧ SL w [] w_ [A8 g1 26 [.string ⟨⟨a1.Name⟩⟩, v1_1, v1_2, v1_3], A8 g0 26 [.string ⟨⟨a0.Name⟩⟩, v0_1, v0_2, v0_3]]) H ?_ ?_
  ·exact ⟨F.sb, s7⟩
  intro s8 _ w6 hn o3 H hr
  obtain ⟨F, s9⟩ := hn
  replace H : DW a0 a1 s8 = some o3 := H
  unfold DW at H
  refine gc 6 F rfl fun _ F => AH F H 11 4 rfl rfl rfl (fun ho H _ F => ?_) (fun ho H _ F => ?_)
  ·obtain ⟨x4, hp, H⟩ := Aa H
   obtain ⟨a4, c2, G2, hq, hs, ht, hu⟩ := Rd.idx hr0_3 OE rfl hp
   obtain ⟨v4, rfl, hv⟩ := (Zn ht hu)
   have hc7014_ := hs; clear hs; have hs := fun w_ (hC : SL w [] w_ [A8 g1 26 [.string ⟨⟨a1.Name⟩⟩, v1_1, v1_2, v1_3], A8 g0 26 [.string ⟨⟨a0.Name⟩⟩, v0_1, v0_2, v0_3]]) => hc7014_ _ _ hC
   obtain ⟨x5, hw, H⟩ := Aa H
   obtain ⟨a5, c3, G3, hx, hy, hz, h10⟩ := Rd.idx hr1_3 OE rfl hw
   obtain ⟨v5, rfl, h11⟩ := (Zn hz h10)
   have hc7025_ := hy; clear hy; have hy := fun w_ (hC : SL w [] w_ [A8 g1 26 [.string ⟨⟨a1.Name⟩⟩, v1_1, v1_2, v1_3], A8 g0 26 [.string ⟨⟨a0.Name⟩⟩, v0_1, v0_2, v0_3]]) => hc7025_ _ _ hC
   obtain ⟨x6, h12, H⟩ := Aa H
   refine HA Bq s9 F (QR.ev 1 rfl <| QR.ld m1 rfl <| QR.ev 1 rfl <| QR.ix hq rfl <| QR.qo (fun _ hC => An QQ rfl (Bn.at_ (hs _ hC) (o := 0) rfl)) rfl <| QR.ev 1 rfl <| QR.ld m0 rfl <| QR.ev 1 rfl <| QR.ix hx rfl <| QR.qo (fun _ hC => An QQ rfl (Bn.at_ (hy _ hC) (o := 0) rfl)) rfl <| QR.call (args := [.tmp 67, .tmp 72]) Au4 rfl (fun _ hC => Bf (Ly (a0 := x4) (a1 := x5) (hv.AN hC) (h11.AN hC) h12) hC) <| QR.ev 1 rfl <| Bb) fun w7 _ sa F => ge 1 F rfl fun _ F => AH F H 12 7 rfl rfl rfl (fun h13 H _ F => ?_) (fun h13 H _ F => ?_)
   ·cases H
    obtain rfl := hr _ rfl
    replace H := R1
    try dsimp only at H
    cases H
    exact rt F ⟨rfl, sa.drop.drop⟩
   cases H
   exact ⟨_, rfl, F.sb, sa⟩
  cases H
  obtain rfl := hr _ rfl
  exact ⟨_, rfl, F.sb, s9.drop.drop⟩
 intro _ w8 hJ
 obtain ⟨p1, rfl, F, sc⟩ := hJ
 have H := R1
 clear R1 H1
 try dsimp only at H
 cases H
 exact ge 7 F rfl fun _ F => rt F ⟨rfl, sc⟩
theorem Ix {w : World} {v0 : Value} {a0 : List B6} {r : (List B6)} (hr0 : Rd Ct w [] v0 a0) (H : Dd a0 = some r) :
    Calls prog 44 #[v0] w (B9 fun u_ w_ => ∃ u0 : Value, u_ = u0 ∧ SL w [] w_ [Sl Ct u0 r]) := by
 have s0 : SL w [] w [] := SL.Bt w
 refine BD func44 ntmps44 9 rfl rfl rfl fun _ F => ?_
 unfold Dd at H
 obtain ⟨A0, c0, h0⟩ := JI (Eb hr0 s0)
 refine gx F (Ro rfl h0 rfl underlying101) 2 rfl rfl fun _ F => WF F rfl (fun h1 => ?_) (fun h1 => ?_)
 ·have h2 := WT (Eb hr0 s0) h0 (by simpa using h1)
  replace H := Uh (B := some ([] : List B6)) H (by simp [h2, app])
  cases H
  exact gc 7 F rfl fun _ F => rt F ⟨(.slice none 0 0), rfl, (SL.BI (T := Ct) s0)⟩
 refine gc 4 F rfl fun _ F => ?_
 refine Ae (parts := []) DO ([] : List B6) F s0 Hd rfl (by decide) rfl rfl rfl (by simp [Value.cells]) rfl rfl rfl fun v1 w0 _ F s1 => ?_
 obtain ⟨x0, h3, H⟩ := Aa H
 obtain ⟨_, hr_⟩ := (Eb hr0 s1)
 refine gw 1 F rfl fun _ F => Aw DO F s1 Hd rfl rfl rfl rfl hr_ rfl rfl h3 rfl fun v2 w1 _ F s2 => ?_
 cases H
 exact gw 4 F rfl fun _ F => rt F ⟨v2, rfl, s2⟩
theorem Gz {w : World} {v0 : Value} {a0 : List UInt8} {r : (List UInt8)} (hr0 : Rd Ty.u8 w [] v0 a0) (H : Dm a0 = some r) :
    Calls prog 70 #[v0] w (B9 fun u_ w_ => ∃ u0 : Value, u_ = u0 ∧ SL w [] w_ [Sl Ty.u8 u0 r]) := by
 have s0 : SL w [] w [] := SL.Bt w
 refine BD func70 ntmps70 9 rfl rfl rfl fun _ F => ?_
 unfold Dm at H
 obtain ⟨A0, c0, h0⟩ := JI (Eb hr0 s0)
 refine gx F (Ro rfl h0 rfl underlying47) 2 rfl rfl fun _ F => WF F rfl (fun h1 => ?_) (fun h1 => ?_)
 ·have h2 := WT (Eb hr0 s0) h0 (by simpa using h1)
  replace H := Uh (B := some ([] : List UInt8)) H (by simp [h2, app])
  cases H
  exact gc 7 F rfl fun _ F => rt F ⟨(.slice none 0 0), rfl, (SL.BI (T := Ty.u8) s0)⟩
 refine gc 4 F rfl fun _ F => ?_
 refine Ae (parts := []) Flat.u8 ([] : List UInt8) F s0 Br rfl (by decide) rfl rfl rfl (by simp [Value.cells]) rfl rfl rfl fun v1 w0 _ F s1 => ?_
 obtain ⟨x0, h3, H⟩ := Aa H
 obtain ⟨_, hr_⟩ := (Eb hr0 s1)
 refine gw 1 F rfl fun _ F => Aw Flat.u8 F s1 Br rfl rfl rfl rfl hr_ rfl rfl h3 rfl fun v2 w1 _ F s2 => ?_
 cases H
 exact gw 4 F rfl fun _ F => rt F ⟨v2, rfl, s2⟩
theorem Yi {w : World} {v0_1 v0_2 v0_3 : Value} {a0 : AL} {a1 : Int} {r : AA × Bool} (hr0_1 : Rd AB w [] v0_1 a0.Classes) (hr0_2 : Rd Cc w [] v0_2 a0.Funcs) (hr0_3 : Rd (Ty.slice Ty.u8) w [] v0_3 a0.Ca) (H : NM a0 a1 = some r) :
    Calls prog 46 #[.agg ⟨[.string ⟨⟨a0.Name⟩⟩, v0_1, v0_2, v0_3]⟩, jI a1] w (B9 fun u_ w_ => ∃ u0 u1 : Value, u_ = .tuple ⟨[.agg ⟨[u0, u1, jI r.1.Fn]⟩, .bool r.2]⟩ ∧ SL w [] w_ [Sl AB u0 r.1.Classes, Sl B8 u1 r.1.AQ]) := by
 have s0 : SL w [] w [] := SL.Bt w
 refine BD func46 ntmps46 2 rfl rfl rfl fun _ F0 => ?_
 unfold NM at H
 refine Ar F0 s0 rfl rfl rfl fun g0 w0 _ F s1 => Af F s1 Gx rfl rfl fun g1 w1 _ F s2 => gw 9 F rfl fun _ F => BB 13 F H (fun h0 H F => ?_) (fun h0 H F => ?_)
 ·refine gw 11 F rfl fun _ F => gx F (Al (vs := []) Gx Nv rfl (cs := [.slice none 0 0, .slice none 0 0, jI 0]) (rfl)) 0 rfl rfl fun _ F => Ai F s2 rfl rfl J3 (Ab rfl (Ab rfl (Ab rfl Ap))) (Ac rfl) fun w2 _ F s3 => ?_
  cases H
  refine gw 5 F rfl fun _ F => ?_
  refine Ak (rs := [.cell 4 110, .tmp 5]) (vs := [.agg ⟨[.slice none 0 0, .slice none 0 0, jI 0]⟩, .bool false]) F (by rfl) ⟨_, _, rfl, Am s3 m0 rfl Ln rfl, _, _, rfl, Ao rfl, rfl⟩ ⟨_, rfl, ⟨(.slice none 0 0), (.slice none 0 0), rfl, (SL.BI (T := B8) (SL.BI (T := AB) s3)).f2.drop.f2.drop.f1⟩⟩
 refine gw 2 F rfl fun _ F => AK F rfl rfl <| AG F s2 m1 0 rfl fun _ F => AK F rfl rfl <| gx F (Ah rfl underlying23 (fR hr0_2 s2)) 4 rfl rfl fun _ F => AH F H 2 5 rfl rfl rfl (fun h1 H _ F => ?_) (fun h1 H _ F => ?_)
 ·refine gx F (Al (vs := []) Gx Nv rfl (cs := [.slice none 0 0, .slice none 0 0, jI 0]) (rfl)) 0 rfl rfl fun _ F => Ai F s2 rfl rfl J3 (Ab rfl (Ab rfl (Ab rfl Ap))) (Ac rfl) fun w3 _ F s4 => ?_
  cases H
  refine gw 5 F rfl fun _ F => ?_
  refine Ak (rs := [.cell 4 110, .tmp 5]) (vs := [.agg ⟨[.slice none 0 0, .slice none 0 0, jI 0]⟩, .bool false]) F (by rfl) ⟨_, _, rfl, Am s4 m0 rfl Ln rfl, _, _, rfl, Ao rfl, rfl⟩ ⟨_, rfl, ⟨(.slice none 0 0), (.slice none 0 0), rfl, (SL.BI (T := B8) (SL.BI (T := AB) s4)).f2.drop.f2.drop.f1⟩⟩
 refine gx F (Al (vs := [jI a1]) Gx Nv rfl (cs := [.slice none 0 0, .slice none 0 0, jI a1]) (rfl)) 0 rfl rfl fun _ F => Af F s2 Gx rfl rfl fun g2 w4 _ F s5 => Ai F s5 rfl rfl J3 (Ab rfl (Ab rfl (Ab rfl Ap))) (Ac rfl) fun w5 _ F s6 => gw 6 F rfl fun _ F => AG F s6 m2 0 rfl fun _ F => ?_
 obtain ⟨o0, H0, R0⟩ := Aa H
 clear H
 refine gx F (Ah rfl underlying22 (fR hr0_1 s6)) 3 rfl rfl fun _ F => BA (fun a w_ => ∃ v0 : Value, Fr a 63 [(2, jP g0), (4, jP g1), (6, jP g2)] ∧ SL w [] w_ [A8 g2 110 [v0, .slice none 0 0, jI a1], A8 g1 110 [.slice none 0 0, .slice none 0 0, jI 0], A8 g0 26 [.string ⟨⟨a0.Name⟩⟩, v0_1, v0_2, v0_3], Sl AB v0 o0]) ?_ ?_
 ·have H := H0
  refine gc 1 F rfl fun _ F => Cy (Ka a0) (fun s7 a w_ => ∃ v1 : Value, Fr a 63 [(2, jP g0), (4, jP g1), (6, jP g2), (24, v0_1), (25, jI (a0.Classes.length : Int)), (26, jI s7.2)] ∧ SL w [] w_ [A8 g2 110 [v1, .slice none 0 0, jI a1], A8 g1 110 [.slice none 0 0, .slice none 0 0, jI 0], A8 g0 26 [.string ⟨⟨a0.Name⟩⟩, v0_1, v0_2, v0_3], Sl AB v1 s7.1]) H ?_ ?_
  ·exact ⟨(.slice none 0 0), F.sb, (SL.BI (T := AB) s6).f3.f3.f3⟩
  intro s7 _ w6 h2 o1 H hr
  obtain ⟨v1, F, s8⟩ := h2
  replace H : Ka a0 s7 = some o1 := H
  unfold Ka at H
  refine gc 6 F rfl fun _ F => AH F H 6 4 rfl rfl rfl (fun h3 H _ F => ?_) (fun h3 H _ F => ?_)
  ·obtain ⟨x0, h4, H⟩ := Aa H
   obtain ⟨a2, c0, G0, h5, h6, h7, h8⟩ := Rd.idx hr0_1 D5 rfl h4
   obtain ⟨v2, rfl, h9⟩ := (C7 h7 h8)
   replace h6 := h6 _ _ s8
   refine gi F h5 0 rfl fun _ F => gx F (Av Ob rfl h6 rfl) 0 rfl rfl fun _ F => Af F s8 OB rfl rfl fun g3 w7 _ F s9 => Ai F s9 rfl rfl Q4 (Ab rfl (Ab rfl (Ab (Aq (fR h9 s9)) Ap))) (Ac rfl) fun w8 _ F sa => ?_
   obtain ⟨x1, ha, H⟩ := Aa H
   refine gw 5 F rfl fun _ F => AG F sa m0 0 rfl fun _ F => Df F (Ix (h9.AN sa) ha) fun v3 w9 _ hb F => ?_
   obtain ⟨_, rfl, hc⟩ := hb
   have sc := sa.add hc
   refine gw 1 F rfl fun _ F => Ay F sc.f1 rfl rfl Xu (Ag (fO sc.f1 m1)) (Aq (fO sc.f1 m1)) rfl fun wa _ F sd => gw 4 F rfl fun _ F => AG F sd m2 0 rfl fun _ F => AG F sd m0 0 rfl fun _ F => ?_
   have se : SL w [] _ (Dt AB (⟨x0.Name, x0.B2, x1⟩ : A6) [.string ⟨⟨x0.Name⟩⟩, jI x0.B2, v3] :: [A8 g3 103 [.string ⟨⟨x0.Name⟩⟩, jI x0.B2, v3], A8 g2 110 [v1, .slice none 0 0, jI a1], A8 g1 110 [.slice none 0 0, .slice none 0 0, jI 0], A8 g0 26 [.string ⟨⟨a0.Name⟩⟩, v0_1, v0_2, v0_3], Sl AB v1 s7.1]) := (SL.PQ (f := JB) (x := (⟨x0.Name, x0.B2, x1⟩ : A6)) (SL.JJ (SL.KN (SL.JJ (SL.KN (SL.dsl sd.f1) (Flat.int .i64) x0.B2)) Flat.str x0.Name)))
   refine Bd F se D5 rfl (by decide) rfl rfl rfl fun v4 wb _ F sf => ?_
   obtain ⟨x2, hd, H⟩ := Aa H
   refine Bh F sf.f5 D5 rfl rfl rfl rfl rfl rfl hd rfl fun v5 wc _ F sg => gw 1 F rfl fun _ F => Ay F sg.f2 rfl rfl A11 (Ag (fO sg.f2 m1)) (Aq (fO sg.f2 m1)) rfl fun wd _ F sh => ?_
   cases H
   exact gw 7 F rfl fun _ F => ⟨_, rfl, v5, F.sb, sh.f2.drop.f1.f3.f3.f3⟩
  cases H
  obtain rfl := hr _ rfl
  exact ⟨v1, F.sb, s8⟩
 intro _ we hJ
 obtain ⟨v0, F, si⟩ := hJ
 have H := R0
 clear R0 H0
 refine ge 5 F rfl fun _ F => AG F si m2 0 rfl fun _ F => ?_
 obtain ⟨o2, H1, R1⟩ := Aa H
 clear H
 refine gx F (Ah rfl underlying23 (fR hr0_2 si)) 3 rfl rfl fun _ F => BA (fun a w_ => ∃ v6 : Value, Fr a 63 [(4, jP g1), (6, jP g2)] ∧ SL w [] w_ [A8 g2 110 [v0, v6, jI a1], A8 g1 110 [.slice none 0 0, .slice none 0 0, jI 0], Sl AB v0 o0, Sl B8 v6 o2]) ?_ ?_
 ·have H := H1
  refine gc 1 F rfl fun _ F => Cy (Kj a0) (fun sj a w_ => ∃ v7 : Value, Fr a 63 [(4, jP g1), (6, jP g2), (42, v0_2), (43, jI (a0.Funcs.length : Int)), (44, jI sj.2)] ∧ SL w [] w_ [A8 g2 110 [v0, v7, jI a1], A8 g1 110 [.slice none 0 0, .slice none 0 0, jI 0], Sl AB v0 o0, Sl B8 v7 sj.1]) H ?_ ?_
  ·exact ⟨(.slice none 0 0), F.sb, (SL.BI (T := B8) si).f3.drop.f3.f3.f3⟩
  intro sj _ wf he o3 H hr
  obtain ⟨v7, F, sk⟩ := he
  replace H : Kj a0 sj = some o3 := H
  unfold Kj at H
  refine gc 6 F rfl fun _ F => AH F H 6 4 rfl rfl rfl (fun hf H _ F => ?_) (fun hf H _ F => ?_)
  ·obtain ⟨x3, hg, H⟩ := Aa H
   obtain ⟨a3, c1, G1, hh, hi, hj, hk⟩ := Rd.idx hr0_2 Ke rfl hg
   obtain ⟨v8, v9, rfl, hl, hm⟩ := (Jv hj hk)
   replace hi := hi _ _ sk
   refine gi F hh 0 rfl fun _ F => gx F (Av My rfl hi rfl) 0 rfl rfl fun _ F => Af F sk Oa rfl rfl fun g4 wg _ F sl => Ai F sl rfl rfl Qe (Ab rfl (Ab (Aq (fR hl sl)) (Ab rfl (Ab rfl (Ab (Aq (fR hm sl)) Ap))))) (Ac rfl) fun wh _ F sm => ?_
   obtain ⟨x4, hn, H⟩ := Aa H
   obtain ⟨x5, hp, H⟩ := Aa H
   refine gw 2 F rfl fun _ F => Cq Bq sm.f1.drop.f3.drop ?_
   have sn := sm.drew
   refine hq [0, 2, 3, 4, 6, 7, 8] F sn.f1.drop.f3.drop (QI.ev 3 rfl <| QI.ld m0 rfl <| QI.ev 2 rfl <| QI.ld m0 rfl <| QI.nil) (by kernel_rfl) fun _ F => ?_
   refine CJ [0, 1, 2, 3, 4, 5, 6, 7, 8, 9, 10] (fun a w_ => ∃ va : Value, Fr a 63 [(4, jP g1), (6, jP g2), (42, v0_2), (43, jI (a0.Funcs.length : Int)), (44, jI sj.2), (49, v7), (58, va)] ∧ SL w [] w_ [A8 g4 52 [.string ⟨⟨x3.Name⟩⟩, v8, jU (x3.Sig.Result.toNat : Int), jI x3.Locals, v9], A8 g1 110 [.slice none 0 0, .slice none 0 0, jI 0], Sl AB v0 o0, Sl B8 va ([(⟨x4, x3.Sig.Result⟩ : Bl)] : List Bl), Sl B8 v7 sj.1, A8 g2 110 [v0, v7, jI a1]]) ?_ fun hD0 => ?_
   ·rintro a w_ ⟨va, F, so⟩
    refine ho 11 rfl (by kernel_rfl) ?_
    refine Bh F so.f3.f4 E2 rfl rfl rfl rfl rfl rfl hp rfl fun vb wi _ F sp => gw 1 F rfl fun _ F => ⟨sp.drop.f3.drop, ?_⟩
    refine hq [12] F sp.drop.f3.drop (QI.ev 1 rfl <| QI.nil) (by kernel_rfl) fun _ F => ?_
    refine ho 13 rfl (by kernel_rfl) ?_
    refine Ay F sp.f4 rfl rfl Xh (Ag (fO sp.f4 m1)) (Aq (fO sp.f4 m1)) rfl fun wj _ F sq => gw 1 F rfl fun _ F => ⟨sq.drop.drop, ?_⟩
    refine CP (by kernel_rfl) ?_
    cases H
    exact ge 6 F rfl fun _ F => ⟨_, rfl, vb, F.sb, sq.f2.drop.f1.f3.f3.f3⟩
   refine CJ [0, 1, 2, 3, 4, 5, 6, 7, 8, 9] (fun a w_ => ∃ vc : Value, Fr a 63 [(4, jP g1), (6, jP g2), (42, v0_2), (43, jI (a0.Funcs.length : Int)), (44, jI sj.2), (49, v7), (57, .agg ⟨[vc, jU (x3.Sig.Result.toNat : Int)]⟩)] ∧ SL w [] w_ [A8 g4 52 [.string ⟨⟨x3.Name⟩⟩, v8, jU (x3.Sig.Result.toNat : Int), jI x3.Locals, v9], A8 g1 110 [.slice none 0 0, .slice none 0 0, jI 0], Sl AB v0 o0, Sl Ty.u8 vc x4, Sl B8 v7 sj.1, A8 g2 110 [v0, v7, jI a1]]) ?_ fun hD1 => ?_
   ·rintro a w_ ⟨vc, F, sr⟩
    refine ho 10 rfl (by kernel_rfl) ?_
    have ss : SL w [] _ (Dt B8 (⟨x4, x3.Sig.Result⟩ : Bl) [vc, jU (x3.Sig.Result.toNat : Int)] :: [A8 g4 52 [.string ⟨⟨x3.Name⟩⟩, v8, jU (x3.Sig.Result.toNat : Int), jI x3.Locals, v9], A8 g1 110 [.slice none 0 0, .slice none 0 0, jI 0], Sl AB v0 o0, Sl B8 v7 sj.1, A8 g2 110 [v0, v7, jI a1]]) := (SL.PQ (f := Ge) (x := (⟨x4, x3.Sig.Result⟩ : Bl)) (SL.JJ (SL.dsl (SL.KN sr Flat.u8 x3.Sig.Result).f4)))
    refine Bd F ss E2 rfl (by decide) rfl rfl rfl fun va wk _ F st => ?_
    exact gw 1 F rfl fun _ F => ⟨st.drop.f3.drop.f3.drop, BJ hD0 ⟨va, F.sb, st.f5.f5.f2.f5.f5.f5⟩ (by kernel_rfl)⟩
   refine CJ [0, 1, 2, 3, 4, 5, 6, 7, 8] (fun a w_ => ∃ vc : Value, Fr a 63 [(4, jP g1), (6, jP g2), (42, v0_2), (43, jI (a0.Funcs.length : Int)), (44, jI sj.2), (49, v7), (53, vc), (56, jU (x3.Sig.Result.toNat : Int))] ∧ SL w [] w_ [A8 g4 52 [.string ⟨⟨x3.Name⟩⟩, v8, jU (x3.Sig.Result.toNat : Int), jI x3.Locals, v9], A8 g1 110 [.slice none 0 0, .slice none 0 0, jI 0], Sl AB v0 o0, Sl Ty.u8 vc x4, Sl B8 v7 sj.1, A8 g2 110 [v0, v7, jI a1]]) ?_ fun hD2 => ?_
   ·rintro a w_ ⟨vc, F, su⟩
    refine ho 9 rfl (by kernel_rfl) ?_
    have hs := (fO su m3)
    refine gx F (Al (vs := [vc, jU (x3.Sig.Result.toNat : Int)]) KT Y5 rfl (cs := [vc, jU (x3.Sig.Result.toNat : Int)]) (by obtain ⟨_, _, e_0⟩ := hs; rw [e_0] <;> rfl)) 1 rfl rfl fun _ F => ?_
    exact ⟨su.f3.drop.f3.drop.f3.drop, BJ hD1 ⟨vc, F.sb, su⟩ (by kernel_rfl)⟩
   refine E5 1 5 rfl rfl (by kernel_rfl) ?_ ?_
   ·refine AG F sn m1 1 rfl fun _ F => ⟨sn.f1.drop.f3.drop, ?_⟩
    refine ho 5 rfl (by kernel_rfl) ?_
    refine Df F (Gz (hl.AN sn) hn) fun vc wl _ ht F => ?_
    obtain ⟨_, rfl, hu⟩ := ht
    have sv := sn.add hu
    exact gw 1 F rfl fun _ F => ⟨sv.drop.f1.drop.f3.drop, BJ hD2 ⟨vc, F.sb, sv.f2.f5.f2.f5.f5.f5⟩ (by kernel_rfl)⟩
   refine Df F (Gz (hl.AN sn) hn) fun vc wl _ ht F => ?_
   obtain ⟨_, rfl, hu⟩ := ht
   have sv := sn.add hu
   refine gw 1 F rfl fun _ F => ⟨sv.drop.f1.drop.f3.drop, ?_⟩
   refine E5 1 9 rfl rfl (by kernel_rfl) ?_ ?_
   ·exact AG F sv m2 1 rfl fun _ F => ⟨sv.drop.f1.drop.f3.drop, BJ hD2 ⟨vc, F.sb, sv.f2.f5.f2.f5.f5.f5⟩ (by kernel_rfl)⟩
   have hs := (fO sv m0)
   refine gx F (Al (vs := [vc, jU (x3.Sig.Result.toNat : Int)]) KT Y5 rfl (cs := [vc, jU (x3.Sig.Result.toNat : Int)]) (by obtain ⟨_, _, e_0⟩ := hs; rw [e_0] <;> rfl)) 1 rfl rfl fun _ F => ?_
   refine ⟨sv.drop.f1.drop.f3.drop, ?_⟩
   refine E5 1 10 rfl rfl (by kernel_rfl) ?_ ?_
   ·exact AG F sv m2 1 rfl fun _ F => ⟨sv.drop.f1.drop.f3.drop, BJ hD1 ⟨vc, F.sb, sv.f2.f5.f2.f5.f5.f5⟩ (by kernel_rfl)⟩
   have ss : SL w [] _ (Dt B8 (⟨x4, x3.Sig.Result⟩ : Bl) [vc, jU (x3.Sig.Result.toNat : Int)] :: [A8 g4 52 [.string ⟨⟨x3.Name⟩⟩, v8, jU (x3.Sig.Result.toNat : Int), jI x3.Locals, v9], A8 g2 110 [v0, v7, jI a1], A8 g1 110 [.slice none 0 0, .slice none 0 0, jI 0], Sl AB v0 o0, Sl B8 v7 sj.1]) := (SL.PQ (f := Ge) (x := (⟨x4, x3.Sig.Result⟩ : Bl)) (SL.JJ (SL.dsl (SL.KN sv Flat.u8 x3.Sig.Result).f1)))
   refine Bd F ss E2 rfl (by decide) rfl rfl rfl fun va wk _ F st => ?_
   refine gw 1 F rfl fun _ F => ⟨st.drop.f1.drop.f3.drop, ?_⟩
   refine ho 1 rfl (by kernel_rfl) ?_
   exact AG F st m2 1 rfl fun _ F => ⟨st.drop.f1.drop.f3.drop, BJ hD0 ⟨va, F.sb, st.f2.f5.f2.f5.f5.f5⟩ (by kernel_rfl)⟩
  cases H
  obtain rfl := hr _ rfl
  exact ⟨v7, F.sb, sk⟩
 intro _ wm hJ
 obtain ⟨v6, F, sw⟩ := hJ
 have H := R1
 clear R1 H1
 refine ge 3 F rfl fun _ F => AG F sw m0 0 rfl fun _ F => Ai F sw.f1 rfl rfl J3 (Ab (Aq (fO sw.f1 m2)) (Ab (Aq (fO sw.f1 m3)) (Ab rfl Ap))) (Ac rfl) fun wn _ F sx => ?_
 cases H
 refine gw 4 F rfl fun _ F => ?_
 refine Ak (rs := [.cell 4 110, .tmp 5]) (vs := [.agg ⟨[v0, v6, jI a1]⟩, .bool true]) F (by rfl) ⟨_, _, rfl, Am sx m0 rfl Ln rfl, _, _, rfl, Ao rfl, rfl⟩ ⟨_, rfl, ⟨v0, v6, rfl, sx.drop.drop⟩⟩
theorem VE {w : World} {a0 : Int} {r : A4 × Int} (H : MV a0 = some r) :
    Calls prog 131 #[jI a0] w (B9 fun u_ w_ => u_ = .tuple ⟨[.agg ⟨(jI r.1.Locals :: jI r.1.Height :: AU r.1.Slots)⟩, jI r.2]⟩ ∧ SL w [] w_ []) := by
 have s0 : SL w [] w [] := SL.Bt w
 refine BD func131 ntmps131 2 rfl rfl rfl fun _ F0 => ?_
 unfold MV at H
 refine Af F0 s0 AO rfl rfl fun g8 w9 _ F s1 => gw 9 F rfl fun _ F => BB 6 F H (fun h0 H F => ?_) (fun h0 H F => ?_)
 ·refine gw 8 F rfl fun _ F => gx F (Al (vs := []) AO Ch rfl (cs := jZ) (BG)) 0 rfl rfl fun _ F => ?_
  refine AP (ds := jZ) F s1 rfl rfl (by simpa using AX) (Ab rfl (Ab rfl (Bp _))) (by simp) fun w0 _ F s2 => ?_
  cases H
  refine gw 5 F rfl fun _ F => ?_
  refine Ak (rs := [.cell 2 118, .tmp 3]) (vs := [.agg ⟨jZ⟩, jI 1]) F (by rfl) ⟨_, _, rfl, Am s2 m0 rfl AZ (by simp), _, _, rfl, Ao rfl, rfl⟩ ⟨_, rfl, ⟨rfl, s2.drop⟩⟩
 refine gw 5 F rfl fun _ F => AH F H 2 5 rfl rfl rfl (fun h1 H _ F => ?_) (fun h1 H _ F => ?_)
 ·refine gx F (Al (vs := []) AO Ch rfl (cs := jZ) (BG)) 0 rfl rfl fun _ F => ?_
  refine AP (ds := jZ) F s1 rfl rfl (by simpa using AX) (Ab rfl (Ab rfl (Bp _))) (by simp) fun w1 _ F s3 => ?_
  cases H
  refine gw 5 F rfl fun _ F => ?_
  refine Ak (rs := [.cell 2 118, .tmp 3]) (vs := [.agg ⟨jZ⟩, jI 1]) F (by rfl) ⟨_, _, rfl, Am s3 m0 rfl AZ (by simp), _, _, rfl, Ao rfl, rfl⟩ ⟨_, rfl, ⟨rfl, s3.drop⟩⟩
 refine gx F (Al (vs := [jI a0]) AO Ch rfl (cs := (jI a0 :: jI 0 :: AU (Vector.replicate 24 (0 : UInt8)))) (Do rfl rfl (by simp) <| BG)) 0 rfl rfl fun _ F => ?_
 refine AP (ds := (jI a0 :: jI 0 :: AU (Vector.replicate 24 (0 : UInt8)))) F s1 rfl rfl (by simpa using AX) (Ab rfl (Ab rfl (Bp _))) (by simp) fun w2 _ F s4 => ?_
 cases H
 refine gw 4 F rfl fun _ F => ?_
 refine Ak (rs := [.cell 2 118, .tmp 3]) (vs := [.agg ⟨(jI a0 :: jI 0 :: AU (Vector.replicate 24 (0 : UInt8)))⟩, jI 0]) F (by rfl) ⟨_, _, rfl, Am s4 m0 rfl AZ (by simp), _, _, rfl, Ao rfl, rfl⟩ ⟨_, rfl, ⟨rfl, s4.drop⟩⟩
theorem Hl {w : World} {v0 : Value} {a0 : List A6} {a1 : UInt8} {r : Int} (hr0 : Rd AB w [] v0 a0) (H : GT a0 a1 = some r) :
    Calls prog 158 #[v0, jU (a1.toNat : Int)] w (B9 fun u_ w_ => u_ = jI r ∧ SL w [] w_ []) := by
 have s0 : SL w [] w [] := SL.Bt w
 refine BD func158 ntmps158 11 rfl rfl rfl fun _ F => ?_
 unfold GT at H
 refine BB 7 F H (fun h0 H F => ?_) (fun h0 H F => ?_)
 ·cases H
  exact gw 17 F rfl fun _ F => rt F ⟨rfl, s0⟩
 refine gw 1 F rfl fun _ F => AK F rfl rfl <| gx F (Qo rfl rfl) 0 rfl rfl fun _ F => AK F rfl rfl <| gx F (Lr rfl underlying48 underlying3) 1 rfl rfl fun _ F => AK F rfl rfl <| gx F (Ah rfl underlying22 (fR hr0 s0)) 4 rfl rfl fun _ F => AH F H 7 5 rfl rfl rfl (fun h1 H _ F => ?_) (fun h1 H _ F => ?_)
 ·cases H
  exact rt F ⟨rfl, s0⟩
 refine gx F (Qo rfl rfl) 0 rfl rfl fun _ F => ?_
 cases H
 exact gx F (Lr rfl underlying48 underlying3) 4 rfl rfl fun _ F => rt F ⟨rfl, s0⟩
theorem Ho {w : World} {v0 : Value} {a0 : List A6} {a1 : UInt8} {r : Bool} (hr0 : Rd AB w [] v0 a0) (H : FO a0 a1 = some r) :
    Calls prog 132 #[v0, jU (a1.toNat : Int)] w (B9 fun u_ w_ => u_ = .bool r ∧ SL w [] w_ []) := by
 have s0 : SL w [] w [] := SL.Bt w
 refine BD func132 ntmps132 10 rfl rfl rfl fun _ F => ?_
 unfold FO at H
 refine BB 7 F H (fun h0 H F => ?_) (fun h0 H F => ?_)
 ·cases H
  exact gw 9 F rfl fun _ F => rt F ⟨rfl, s0⟩
 obtain ⟨x0, h1, H⟩ := Aa H
 refine gw 2 F rfl fun _ F => AK F rfl rfl <| B5 F s0 (Hl (hr0.AN s0) h1) 6 rfl rfl rfl rfl fun w0 _ F s1 => ?_
 cases H
 exact rt F ⟨rfl, s1⟩
theorem LP {w : World} {v0 v1 : Value} {a0 : List A6} {a1 : List UInt8} {a2 : Int} {r : A4 × Int} (hr0 : Rd AB w [] v0 a0) (hr1 : Rd Ty.u8 w [] v1 a1) (H : Kh a0 a1 a2 = some r) :
    Calls prog 104 #[v0, v1, jI a2] w (B9 fun u_ w_ => u_ = .tuple ⟨[.agg ⟨(jI r.1.Locals :: jI r.1.Height :: AU r.1.Slots)⟩, jI r.2]⟩ ∧ SL w [] w_ []) := by
 have s0 : SL w [] w [] := SL.Bt w
 refine BD func104 ntmps104 2 rfl rfl rfl fun _ F0 => ?_
 unfold Kh at H
 refine Af F0 s0 AO rfl rfl fun g8 w9 _ F s1 => ?_
 obtain ⟨x0, h0, H⟩ := Aa H
 refine gw 6 F rfl fun _ F => B5 F s1 (VE h0) 3 rfl rfl rfl rfl fun w0 _ F s2 => Af F s2 AO rfl rfl fun g0 w1 _ F s3 => ?_
 refine AP (ds := (jI x0.1.Locals :: jI x0.1.Height :: AU x0.1.Slots)) F s3 rfl rfl (by simpa using AX) (Ab rfl (Ab rfl (Bp _))) (by simp) fun w2 _ F s4 => ?_
 refine gw 9 F rfl fun _ F => BB 19 F H (fun h1 H F => ?_) (fun h1 H F => ?_)
 ·refine gw 15 F rfl fun _ F => gx F (Al (vs := []) AO Ch rfl (cs := jZ) (BG)) 0 rfl rfl fun _ F => ?_
  refine AP (ds := jZ) F s4.f1 rfl rfl (by simpa using AX) (Ab rfl (Ab rfl (Bp _))) (by simp) fun w3 _ F s5 => ?_
  cases H
  refine gw 5 F rfl fun _ F => ?_
  refine Ak (rs := [.cell 6 118, .tmp 7]) (vs := [.agg ⟨jZ⟩, jI 1]) F (by rfl) ⟨_, _, rfl, Am s5 m0 rfl AZ (by simp), _, _, rfl, Ao rfl, rfl⟩ ⟨_, rfl, ⟨rfl, s5.drop.drop⟩⟩
 refine gw 1 F rfl fun _ F => AK F rfl rfl <| gx F (Ah rfl underlying47 (fR hr1 s4)) 3 rfl rfl fun _ F => BB 24 F H (fun h2 H F => ?_) (fun h2 H F => ?_)
 ·refine gw 10 F rfl fun _ F => gx F (Al (vs := []) AO Ch rfl (cs := jZ) (BG)) 0 rfl rfl fun _ F => ?_
  refine AP (ds := jZ) F s4.f1 rfl rfl (by simpa using AX) (Ab rfl (Ab rfl (Bp _))) (by simp) fun w4 _ F s6 => ?_
  cases H
  refine gw 5 F rfl fun _ F => ?_
  refine Ak (rs := [.cell 6 118, .tmp 7]) (vs := [.agg ⟨jZ⟩, jI 1]) F (by rfl) ⟨_, _, rfl, Am s6 m0 rfl AZ (by simp), _, _, rfl, Ao rfl, rfl⟩ ⟨_, rfl, ⟨rfl, s6.drop.drop⟩⟩
 refine gw 1 F rfl fun _ F => AK F rfl rfl <| gx F (Ah rfl underlying47 (fR hr1 s4)) 5 rfl rfl fun _ F => AH F H 2 6 rfl rfl rfl (fun h3 H _ F => ?_) (fun h3 H _ F => ?_)
 ·refine gx F (Al (vs := []) AO Ch rfl (cs := jZ) (BG)) 0 rfl rfl fun _ F => ?_
  refine AP (ds := jZ) F s4.f1 rfl rfl (by simpa using AX) (Ab rfl (Ab rfl (Bp _))) (by simp) fun w5 _ F s7 => ?_
  cases H
  refine gw 5 F rfl fun _ F => ?_
  refine Ak (rs := [.cell 6 118, .tmp 7]) (vs := [.agg ⟨jZ⟩, jI 1]) F (by rfl) ⟨_, _, rfl, Am s7 m0 rfl AZ (by simp), _, _, rfl, Ao rfl, rfl⟩ ⟨_, rfl, ⟨rfl, s7.drop.drop⟩⟩
 obtain ⟨o0, H0, R0⟩ := Aa H
 clear H
 refine gx F (Ah rfl underlying47 (fR hr1 s4)) 3 rfl rfl fun _ F => BA (fun a w_ => ∃ p0 : (Vector UInt8 24), o0 = .inr (p0) ∧ Fr a 57 [(6, jP g8), (8, jP g0)] ∧ SL w [] w_ [A8 g0 118 (jI x0.1.Locals :: jI x0.1.Height :: AU p0), A8 g8 118 jZ]) ?_ ?_
 ·have H := H0
  refine gc 1 F rfl fun _ F => Cy (Ig a0 a1) (fun s8 a w_ => Fr a 57 [(0, v0), (6, jP g8), (8, jP g0), (31, v1), (32, jI (a1.length : Int)), (33, jI s8.2)] ∧ SL w [] w_ [A8 g0 118 (jI x0.1.Locals :: jI x0.1.Height :: AU s8.1), A8 g8 118 jZ]) H ?_ ?_
  ·exact ⟨F.sb, s4⟩
  intro s8 _ w6 h4 o1 H hr
  obtain ⟨F, s9⟩ := h4
  replace H : Ig a0 a1 s8 = some o1 := H
  unfold Ig at H
  refine gc 6 F rfl fun _ F => AH F H 7 4 rfl rfl rfl (fun h5 H _ F => ?_) (fun h5 H _ F => ?_)
  ·obtain ⟨x1, h6, H⟩ := Aa H
   obtain ⟨a3, h7, h8⟩ := HM Flat.u8 (Eb hr1 s9) Br rfl h6
   refine gi F h7 0 rfl fun _ F => ?_
   obtain ⟨x2, h9, H⟩ := Aa H
   refine gx F (An BF rfl (Bn.at_ h8 (o := 0) rfl)) 9 rfl rfl fun _ F => B5 F s9 (Ho (hr0.AN s9) h9) 2 rfl rfl rfl rfl fun w7 _ F sa => BB 42 F H (fun ha H F => ?_) (fun ha H F => ?_)
   ·refine gw 12 F rfl fun _ F => gx F (Al (vs := []) AO Ch rfl (cs := jZ) (BG)) 0 rfl rfl fun _ F => ?_
    refine AP (ds := jZ) F sa.f1 rfl rfl (by simpa using AX) (Ab rfl (Ab rfl (Bp _))) (by simp) fun w8 _ F sc => ?_
    cases H
    obtain rfl := hr _ rfl
    replace H := R0
    try dsimp only at H
    cases H
    refine gw 11 F rfl fun _ F => ?_
    refine Ak (rs := [.cell 6 118, .tmp 7]) (vs := [.agg ⟨jZ⟩, jI 1]) F (by rfl) ⟨_, _, rfl, Am sc m0 rfl AZ (by simp), _, _, rfl, Ao rfl, rfl⟩ ⟨_, rfl, ⟨rfl, sc.drop.drop⟩⟩
   refine gw 4 F rfl fun _ F => BB 46 F H (fun hb H F => ?_) (fun hb H F => ?_)
   ·refine gw 8 F rfl fun _ F => gx F (Al (vs := []) AO Ch rfl (cs := jZ) (BG)) 0 rfl rfl fun _ F => ?_
    refine AP (ds := jZ) F sa.f1 rfl rfl (by simpa using AX) (Ab rfl (Ab rfl (Bp _))) (by simp) fun wa _ F sd => ?_
    cases H
    obtain rfl := hr _ rfl
    replace H := R0
    try dsimp only at H
    cases H
    refine gw 11 F rfl fun _ F => ?_
    refine Ak (rs := [.cell 6 118, .tmp 7]) (vs := [.agg ⟨jZ⟩, jI 1]) F (by rfl) ⟨_, _, rfl, Am sd m0 rfl AZ (by simp), _, _, rfl, Ao rfl, rfl⟩ ⟨_, rfl, ⟨rfl, sd.drop.drop⟩⟩
   refine gw 5 F rfl fun _ F => AH F H 2 6 rfl rfl rfl (fun hc H _ F => ?_) (fun hc H _ F => ?_)
   ·refine gx F (Al (vs := []) AO Ch rfl (cs := jZ) (BG)) 0 rfl rfl fun _ F => ?_
    refine AP (ds := jZ) F sa.f1 rfl rfl (by simpa using AX) (Ab rfl (Ab rfl (Bp _))) (by simp) fun wb _ F se => ?_
    cases H
    obtain rfl := hr _ rfl
    replace H := R0
    try dsimp only at H
    cases H
    refine gw 11 F rfl fun _ F => ?_
    refine Ak (rs := [.cell 6 118, .tmp 7]) (vs := [.agg ⟨jZ⟩, jI 1]) F (by rfl) ⟨_, _, rfl, Am se m0 rfl AZ (by simp), _, _, rfl, Ao rfl, rfl⟩ ⟨_, rfl, ⟨rfl, se.drop.drop⟩⟩
   obtain ⟨x3, hd, H⟩ := Aa H
   refine gx F (Ef Db hd rfl rfl) 0 rfl rfl fun _ F => Jo (y' := x1) (pre := [jI x0.1.Locals, jI x0.1.Height]) F sa rfl hd rfl rfl JL fun wc _ F sf => ?_
   cases H
   exact gw 7 F rfl fun _ F => ⟨_, rfl, F.sb, sf⟩
  cases H
  obtain rfl := hr _ rfl
  exact ⟨_, rfl, F.sb, s9⟩
 intro _ wd hJ
 obtain ⟨p0, rfl, F, sg⟩ := hJ
 have H := R0
 clear R0 H0
 try dsimp only at H
 refine ge 3 F rfl fun _ F => D3 F sg m0 0 rfl fun _ F => ?_
 refine AP (ds := (jI x0.1.Locals :: jI x0.1.Height :: AU p0)) F sg.f1 rfl rfl (by simpa using AX) (Ab rfl (Ab rfl (Bp _))) (by simp) fun we _ F sh => ?_
 cases H
 refine gw 4 F rfl fun _ F => ?_
 refine Ak (rs := [.cell 6 118, .tmp 7]) (vs := [.agg ⟨(jI x0.1.Locals :: jI x0.1.Height :: AU p0)⟩, jI 0]) F (by rfl) ⟨_, _, rfl, Am sh m0 rfl AZ (by simp), _, _, rfl, Ao rfl, rfl⟩ ⟨_, rfl, ⟨rfl, sh.drop.drop⟩⟩
theorem Oh {w : World} {a0 : List UInt8} {r : Bool} (H : J2 a0 = some r) :
    Calls prog 151 #[.string ⟨⟨a0⟩⟩] w (B9 fun u_ w_ => u_ = .bool r ∧ SL w [] w_ []) := by
 have s0 : SL w [] w [] := SL.Bt w
 refine BD func151 ntmps151 9 rfl rfl rfl fun _ F => ?_
 unfold J2 at H
 refine gx F (LA rfl underlying9) 2 rfl rfl fun _ F => BB 8 F H (fun h0 H F => ?_) (fun h0 H F => ?_)
 ·cases H
  exact gw 14 F rfl fun _ F => rt F ⟨rfl, s0⟩
 refine gw 1 F rfl fun _ F => AK F rfl rfl <| gx F (LA rfl underlying9) 4 rfl rfl fun _ F => AH F H 7 6 rfl rfl rfl (fun h1 H _ F => ?_) (fun h1 H _ F => ?_)
 ·cases H
  exact rt F ⟨rfl, s0⟩
 obtain ⟨o0, H0, R0⟩ := Aa H
 clear H
 refine gx F (LA rfl underlying9) 3 rfl rfl fun _ F => BA (fun a w_ => ∃ p0 : Unit, o0 = .inr (p0) ∧ Fr a 50 [] ∧ SL w [] w_ []) ?_ ?_
 ·have H := H0
  refine gc 1 F rfl fun _ F => Cy (FP a0) (fun s1 a w_ => Fr a 50 [(0, .string ⟨⟨a0⟩⟩), (14, jI (a0.length : Int)), (15, jI s1)] ∧ SL w [] w_ []) H ?_ ?_
  ·exact ⟨F.sb, s0⟩
  intro s1 _ w0 h2 o1 H hr
  obtain ⟨F, s2⟩ := h2
  replace H : FP a0 s1 = some o1 := H
  unfold FP at H
  refine gc 6 F rfl fun _ F => AH F H 14 4 rfl rfl rfl (fun h3 H _ F => ?_) (fun h3 H _ F => ?_)
  ·obtain ⟨x0, h4, H⟩ := Aa H
   obtain ⟨o2, H1, R1⟩ := Aa H
   clear H
   refine gx F (YF rfl rfl underlying9 h4) 5 rfl rfl fun _ F => BA (fun a w_ => Fr a 50 [(0, .string ⟨⟨a0⟩⟩), (3, jI s1), (4, jU (x0.toNat : Int)), (14, jI (a0.length : Int)), (15, jI s1), (21, .bool o2)] ∧ SL w [] w_ []) ?_ ?_
   ·have H := H1
    refine gc 5 F rfl fun _ F => BB 24 F H (fun h5 H F => ?_) (fun h5 H F => ?_)
    ·refine gw 6 F rfl fun _ F => AH F H 1 4 rfl rfl rfl (fun h6 H _ F => ?_) (fun h6 H _ F => ?_)
     ·cases H
      exact ⟨F.sb, s2⟩
     refine BB 30 F H (fun h7 H F => ?_) (fun h7 H F => ?_)
     ·cases H
      exact gw 5 F rfl fun _ F => ⟨F.sb, s2⟩
     cases H
     exact gw 5 F rfl fun _ F => ⟨F.sb, s2⟩
    refine gw 11 F rfl fun _ F => BB 30 F H (fun h8 H F => ?_) (fun h8 H F => ?_)
    ·cases H
     exact gw 5 F rfl fun _ F => ⟨F.sb, s2⟩
    cases H
    exact gw 5 F rfl fun _ F => ⟨F.sb, s2⟩
   intro _ w1 hJ
   obtain ⟨F, s3⟩ := hJ
   have H := R1
   clear R1 H1
   refine ge 1 F rfl fun _ F => AH F H 8 5 rfl rfl rfl (fun h9 H _ F => ?_) (fun h9 H _ F => ?_)
   ·cases H
    exact ⟨_, rfl, F.sb, s3⟩
   refine BB 37 F H (fun ha H F => ?_) (fun ha H F => ?_)
   ·refine gw 3 F rfl fun _ F => BB 40 F H (fun hb H F => ?_) (fun hb H F => ?_)
    ·refine gw 4 F rfl fun _ F => BB 44 F H (fun hc H F => ?_) (fun hc H F => ?_)
     ·cases H
      exact gw 16 F rfl fun _ F => ⟨_, rfl, F.sb, s3⟩
     refine gw 7 F rfl fun _ F => AH F H 8 13 rfl rfl rfl (fun hd H _ F => ?_) (fun hd H _ F => ?_)
     ·cases H
      exact ⟨_, rfl, F.sb, s3⟩
     cases H
     obtain rfl := hr _ rfl
     replace H := R0
     try dsimp only at H
     cases H
     exact rt F ⟨rfl, s3⟩
    refine gw 11 F rfl fun _ F => AH F H 8 13 rfl rfl rfl (fun he H _ F => ?_) (fun he H _ F => ?_)
    ·cases H
     exact ⟨_, rfl, F.sb, s3⟩
    cases H
    obtain rfl := hr _ rfl
    replace H := R0
    try dsimp only at H
    cases H
    exact rt F ⟨rfl, s3⟩
   cases H
   obtain rfl := hr _ rfl
   replace H := R0
   try dsimp only at H
   cases H
   exact gw 28 F rfl fun _ F => rt F ⟨rfl, s3⟩
  cases H
  obtain rfl := hr _ rfl
  exact ⟨_, rfl, F.sb, s2⟩
 intro _ w2 hJ
 obtain ⟨p0, rfl, F, s4⟩ := hJ
 have H := R0
 clear R0 H0
 try dsimp only at H
 cases H
 exact ge 7 F rfl fun _ F => rt F ⟨rfl, s4⟩
theorem N6 {w : World} {v0 : Value} {a0 : List (List UInt8)} {a1 : List UInt8} {r : Int} (hr0 : Rd Ty.str w [] v0 a0) (H : EN a0 a1 = some r) :
    Calls prog 178 #[v0, .string ⟨⟨a1⟩⟩] w (B9 fun u_ w_ => u_ = jI r ∧ SL w [] w_ []) := by
 have s0 : SL w [] w [] := SL.Bt w
 refine BD func178 ntmps178 9 rfl rfl rfl fun _ F => ?_
 unfold EN at H
 obtain ⟨o0, H0, R0⟩ := Aa H
 clear H
 refine gx F (Ah rfl underlying218 (fR hr0 s0)) 3 rfl rfl fun _ F => BA (fun a w_ => ∃ p0 : Unit, o0 = .inr (p0) ∧ Fr a 19 [] ∧ SL w [] w_ []) ?_ ?_
 ·have H := H0
  refine gc 1 F rfl fun _ F => Cy (Cl a0 a1) (fun s1 a w_ => Fr a 19 [(0, v0), (1, .string ⟨⟨a1⟩⟩), (7, jI (a0.length : Int)), (8, jI s1)] ∧ SL w [] w_ []) H ?_ ?_
  ·exact ⟨F.sb, s0⟩
  intro s1 _ w0 h0 o1 H hr
  obtain ⟨F, s2⟩ := h0
  replace H : Cl a0 a1 s1 = some o1 := H
  unfold Cl at H
  refine gc 6 F rfl fun _ F => AH F H 15 4 rfl rfl rfl (fun h1 H _ F => ?_) (fun h1 H _ F => ?_)
  ·obtain ⟨x0, h2, H⟩ := Aa H
   obtain ⟨a2, h3, h4⟩ := HM Flat.str (Eb hr0 s2) N5 rfl h2
   refine gi F h3 0 rfl fun _ F => gx F (An IC rfl (Bn.at_ h4 (o := 0) rfl)) 0 rfl rfl fun _ F => gx F (Qg rfl rfl) 2 rfl rfl fun _ F => AH F H 13 7 rfl rfl rfl (fun h5 H _ F => ?_) (fun h5 H _ F => ?_)
   ·cases H
    obtain rfl := hr _ rfl
    replace H := R0
    try dsimp only at H
    cases H
    exact rt F ⟨rfl, s2⟩
   cases H
   exact ⟨_, rfl, F.sb, s2⟩
  cases H
  obtain rfl := hr _ rfl
  exact ⟨_, rfl, F.sb, s2⟩
 intro _ w1 hJ
 obtain ⟨p0, rfl, F, s3⟩ := hJ
 have H := R0
 clear R0 H0
 try dsimp only at H
 cases H
 exact ge 7 F rfl fun _ F => rt F ⟨rfl, s3⟩
theorem Jk {w : World} {v0 : Value} {a0 : List (List UInt8)} {a1 : List UInt8} {r : Bool} (hr0 : Rd Ty.str w [] v0 a0) (H : C4 a0 a1 = some r) :
    Calls prog 152 #[v0, .string ⟨⟨a1⟩⟩] w (B9 fun u_ w_ => u_ = .bool r ∧ SL w [] w_ []) := by
 have s0 : SL w [] w [] := SL.Bt w
 refine BD func152 ntmps152 9 rfl rfl rfl fun _ F => ?_
 unfold C4 at H
 obtain ⟨x0, h0, H⟩ := Aa H
 refine B5 F s0 (N6 (hr0.AN s0) h0) 5 rfl rfl rfl rfl fun w0 _ F s1 => ?_
 cases H
 exact rt F ⟨rfl, s1⟩
theorem W6 {w : World} {r : (List (List UInt8))} (H : NB = some r) :
    Calls prog 153 #[] w (B9 fun u_ w_ => ∃ u0 : Value, u_ = u0 ∧ SL w [] w_ [Sl Ty.str u0 r]) := by
 have s0 : SL w [] w [] := SL.Bt w
 refine BD func153 ntmps153 7 rfl rfl rfl fun _ F2 => ?_
 unfold NB at H
 refine Ae (parts := [(0, .const (.string ⟨⟨[116, 111, 112]⟩⟩)), (1, .const (.string ⟨⟨[105, 110, 116]⟩⟩)), (2, .const (.string ⟨⟨[98, 111, 111, 108]⟩⟩)), (3, .const (.string ⟨⟨[110, 117, 108, 108]⟩⟩)), (4, .const (.string ⟨⟨[105, 110, 116, 115]⟩⟩)), (5, .const (.string ⟨⟨[97, 110, 121]⟩⟩))]) Flat.str ([[116, 111, 112], [105, 110, 116], [98, 111, 111, 108], [110, 117, 108, 108], [105, 110, 116, 115], [97, 110, 121]] : List (List UInt8)) F2 s0 N5 rfl (by decide) rfl rfl rfl (by simp [Value.cells]) rfl rfl rfl fun v0 w0 _ F s1 => ?_
 cases H
 exact gw 4 F rfl fun _ F => rt F ⟨v0, rfl, s1⟩
theorem Tj {w : World} {FF : List Nat} {g1 : Nat} {v0_2 v1_2 : Value} {a0 : A6} {a1 : A6} {r : Bool} (hst : B1 [A8 g1 103 [.string ⟨⟨a1.Name⟩⟩, jI a1.B2, v1_2]] w FF) (hr0_2 : Rd Ct w FF v0_2 a0.Fields) (hr1_2 : Rd Ct w FF v1_2 a1.Fields) (H : KL a0 a1 = some r) :
    Calls prog 155 #[.agg ⟨[.string ⟨⟨a0.Name⟩⟩, jI a0.B2, v0_2]⟩, jP g1] w (B9 fun u_ w_ => u_ = .bool r ∧ SL w FF w_ [A8 g1 103 [.string ⟨⟨a1.Name⟩⟩, jI a1.B2, v1_2]]) := by
 have s0 : SL w FF w [A8 g1 103 [.string ⟨⟨a1.Name⟩⟩, jI a1.B2, v1_2]] := SL.init w FF hst
 refine BD func155 ntmps155 2 rfl rfl rfl fun _ F0 => ?_
 unfold KL at H
 refine Ar F0 s0 rfl rfl rfl fun g8 w9 _ F s1 => gw 6 F rfl fun _ F => AG F s1 m0 1 rfl fun _ F => AG F s1 m1 0 rfl fun _ F => ?_
 cases H
 exact gx F (Qg rfl rfl) 4 rfl rfl fun _ F => rt F ⟨rfl, s1.drop⟩
theorem IG {w : World} {FF : List Nat} {g0 : Nat} {v0 v200_2 : Value} {a0 : List A6} {a200 : A6} {r : Int} (hst : B1 [A8 g0 103 [.string ⟨⟨a200.Name⟩⟩, jI a200.B2, v200_2]] w FF) (hr0 : Rd AB w FF v0 a0) (hr200_2 : Rd Ct w FF v200_2 a200.Fields) (H : CU a0 a200 = some r) :
    Calls prog 179 #[v0, clo 155 [jP g0]] w (B9 fun u_ w_ => u_ = jI r ∧ SL w FF w_ [A8 g0 103 [.string ⟨⟨a200.Name⟩⟩, jI a200.B2, v200_2]]) := by
 have s0 : SL w FF w [A8 g0 103 [.string ⟨⟨a200.Name⟩⟩, jI a200.B2, v200_2]] := SL.init w FF hst
 refine BD func179 ntmps179 9 rfl rfl rfl fun _ F => ?_
 unfold CU at H
 obtain ⟨o0, H0, R0⟩ := Aa H
 clear H
 refine gx F (Ah rfl underlying22 (fR hr0 s0)) 3 rfl rfl fun _ F => BA (fun a w_ => ∃ p0 : Unit, o0 = .inr (p0) ∧ Fr a 19 [] ∧ SL w FF w_ [A8 g0 103 [.string ⟨⟨a200.Name⟩⟩, jI a200.B2, v200_2]]) ?_ ?_
 ·have H := H0
  refine gc 1 F rfl fun _ F => Cy (BR a0 a200) (fun s1 a w_ => Fr a 19 [(0, v0), (1, clo 155 [jP g0]), (7, jI (a0.length : Int)), (8, jI s1)] ∧ SL w FF w_ [A8 g0 103 [.string ⟨⟨a200.Name⟩⟩, jI a200.B2, v200_2]]) H ?_ ?_
  ·exact ⟨F.sb, s0⟩
  intro s1 _ w0 h0 o1 H hr
  obtain ⟨F, s2⟩ := h0
  replace H : BR a0 a200 s1 = some o1 := H
  unfold BR at H
  refine gc 6 F rfl fun _ F => AH F H 12 4 rfl rfl rfl (fun h1 H _ F => ?_) (fun h1 H _ F => ?_)
  ·obtain ⟨x0, h2, H⟩ := Aa H
   obtain ⟨a2, c0, G0, h3, h4, h5, h6⟩ := Rd.idx hr0 D5 rfl h2
   obtain ⟨v1, rfl, h7⟩ := (C7 h5 h6)
   replace h4 := h4 _ _ s2
   obtain ⟨x1, h8, H⟩ := Aa H
   refine gw 3 F rfl fun _ F => gi F h3 0 rfl fun _ F => gx F (Av Ob rfl h4 rfl) 0 rfl rfl fun _ F => ?_
   obtain ⟨G1, h9, ha, hb, hc⟩ := SL.open_ (ps := [A8 g0 103 [.string ⟨⟨a200.Name⟩⟩, jI a200.B2, v200_2]]) (rest := []) s2
   refine Hb (args := [.tmp 15]) F Aeg rfl rfl (Tj (a0 := x0) (a1 := (⟨a200.Name, a200.B2, a200.Fields⟩ : A6)) h9 (h7.pass s2 ha) (hr200_2.pass s2 ha) h8) rfl fun v2 w1 _ hd F => ?_
   obtain ⟨rfl, he⟩ := hd
   have s3 := hc _ _ he
   refine gw 2 F rfl fun _ F => AH F H 13 7 rfl rfl rfl (fun hf H _ F => ?_) (fun hf H _ F => ?_)
   ·cases H
    obtain rfl := hr _ rfl
    replace H := R0
    try dsimp only at H
    cases H
    exact rt F ⟨rfl, s3⟩
   cases H
   exact ⟨_, rfl, F.sb, s3⟩
  cases H
  obtain rfl := hr _ rfl
  exact ⟨_, rfl, F.sb, s2⟩
 intro _ w2 hJ
 obtain ⟨p0, rfl, F, s4⟩ := hJ
 have H := R0
 clear R0 H0
 try dsimp only at H
 cases H
 exact ge 7 F rfl fun _ F => rt F ⟨rfl, s4⟩
theorem Ip {w : World} {FF : List Nat} {g0 : Nat} {v0 v200_2 : Value} {a0 : List A6} {a200 : A6} {r : Bool} (hst : B1 [A8 g0 103 [.string ⟨⟨a200.Name⟩⟩, jI a200.B2, v200_2]] w FF) (hr0 : Rd AB w FF v0 a0) (hr200_2 : Rd Ct w FF v200_2 a200.Fields) (H : Cn a0 a200 = some r) :
    Calls prog 154 #[v0, clo 155 [jP g0]] w (B9 fun u_ w_ => u_ = .bool r ∧ SL w FF w_ [A8 g0 103 [.string ⟨⟨a200.Name⟩⟩, jI a200.B2, v200_2]]) := by
 have s0 : SL w FF w [A8 g0 103 [.string ⟨⟨a200.Name⟩⟩, jI a200.B2, v200_2]] := SL.init w FF hst
 refine BD func154 ntmps154 9 rfl rfl rfl fun _ F => ?_
 unfold Cn at H
 obtain ⟨x0, h0, H⟩ := Aa H
 obtain ⟨G0, h1, h2, h3, h4⟩ := SL.open_ (ps := [A8 g0 103 [.string ⟨⟨a200.Name⟩⟩, jI a200.B2, v200_2]]) (rest := []) s0
 refine Df F (IG (a200 := (⟨a200.Name, a200.B2, a200.Fields⟩ : A6)) h1 (hr0.pass s0 h2) (hr200_2.pass s0 h2) h0) fun v1 w0 _ h5 F => ?_
 obtain ⟨rfl, h6⟩ := h5
 have s1 := h4 _ _ h6
 cases H
 exact gw 5 F rfl fun _ F => rt F ⟨rfl, s1⟩
theorem Vk {w : World} {v0 : Value} {a0 : List A6} {a1 : UInt8} {r : Bool} (hr0 : Rd AB w [] v0 a0) (H : Lk a0 a1 = some r) :
    Calls prog 181 #[v0, jU (a1.toNat : Int)] w (B9 fun u_ w_ => u_ = .bool r ∧ SL w [] w_ []) := by
 have s0 : SL w [] w [] := SL.Bt w
 refine BD func181 ntmps181 10 rfl rfl rfl fun _ F => ?_
 unfold Lk at H
 refine BB 7 F H (fun h0 H F => ?_) (fun h0 H F => ?_)
 ·cases H
  exact gw 21 F rfl fun _ F => rt F ⟨rfl, s0⟩
 refine gw 4 F rfl fun _ F => BB 11 F H (fun h1 H F => ?_) (fun h1 H F => ?_)
 ·cases H
  exact gw 17 F rfl fun _ F => rt F ⟨rfl, s0⟩
 refine gw 4 F rfl fun _ F => BB 15 F H (fun h2 H F => ?_) (fun h2 H F => ?_)
 ·cases H
  exact gw 13 F rfl fun _ F => rt F ⟨rfl, s0⟩
 refine gw 4 F rfl fun _ F => BB 19 F H (fun h3 H F => ?_) (fun h3 H F => ?_)
 ·cases H
  exact gw 9 F rfl fun _ F => rt F ⟨rfl, s0⟩
 obtain ⟨x0, h4, H⟩ := Aa H
 refine gw 2 F rfl fun _ F => AK F rfl rfl <| B5 F s0 (Hl (hr0.AN s0) h4) 6 rfl rfl rfl rfl fun w0 _ F s1 => ?_
 cases H
 exact rt F ⟨rfl, s1⟩
theorem SG {w : World} {FF : List Nat} {g1 g2 : Nat} {v1_0 v2_0 : Value} {a0 : Int} {a1 : List A6} {a2 : List (List UInt8)} {r : Bool × (List (List UInt8))} (hst : B1 [A8 g1 22 [v1_0], A8 g2 218 [v2_0], Sl Ty.str v2_0 a2] w FF) (hr1_0 : Rd AB w FF v1_0 a1) (H : Je a0 a1 a2 = some r) :
    Calls prog 180 #[jI a0, jP g1, jP g2] w (B9 fun u_ w_ => ∃ u0 : Value, u_ = .bool r.1 ∧ SL w FF w_ [A8 g1 22 [v1_0], A8 g2 218 [u0], Sl Ty.str u0 r.2]) := by
 have s0 : SL w FF w [A8 g1 22 [v1_0], A8 g2 218 [v2_0], Sl Ty.str v2_0 a2] := SL.init w FF hst
 refine BD func180 ntmps180 8 rfl rfl rfl fun _ F2 => ?_
 unfold Je at H
 obtain ⟨x0, h0, H⟩ := Aa H
 obtain ⟨a3, c0, G0, h1, h2, h3, h4⟩ := Rd.idx hr1_0 D5 rfl h0
 obtain ⟨v0, rfl, h5⟩ := (C7 h3 h4)
 replace h2 := h2 _ _ s0
 refine AG F2 s0 m0 1 rfl fun _ F => gi F h1 0 rfl fun _ F => gx F (Ba Ku rfl) 0 rfl rfl fun _ F => gx F (An Lp rfl (Bn.at_ h2 (o := 2) rfl)) 0 rfl rfl fun _ F => ?_
 obtain ⟨o0, H0, R0⟩ := Aa H
 clear H
 refine gx F (Ah rfl underlying101 (fR h5 s0)) 3 rfl rfl fun _ F => BA (fun a w_ => ∃ v1 : Value, Fr a 23 [] ∧ SL w FF w_ [A8 g1 22 [v1_0], A8 g2 218 [v1], Sl Ty.str v1 o0]) ?_ ?_
 ·have H := H0
  refine gc 1 F rfl fun _ F => Cy (Fa x0) (fun s1 a w_ => ∃ v2 : Value, Fr a 23 [(2, jP g2), (11, v0), (12, jI (x0.Fields.length : Int)), (13, jI s1.2)] ∧ SL w FF w_ [A8 g1 22 [v1_0], A8 g2 218 [v2], Sl Ty.str v2 s1.1]) H ?_ ?_
  ·exact ⟨v2_0, F.sb, s0⟩
  intro s1 _ w0 h6 o1 H hr
  obtain ⟨v2, F, s2⟩ := h6
  replace H : Fa x0 s1 = some o1 := H
  unfold Fa at H
  refine gc 6 F rfl fun _ F => AH F H 6 4 rfl rfl rfl (fun h7 H _ F => ?_) (fun h7 H _ F => ?_)
  ·obtain ⟨x1, h8, H⟩ := Aa H
   obtain ⟨a4, h9, ha⟩ := HM DO (Eb h5 s2) Hd rfl h8
   refine gi F h9 0 rfl fun _ F => gx F (Av NR rfl ha rfl) 0 rfl rfl fun _ F => Af F s2 QD rfl rfl fun g0 w1 _ F s3 => Ai F s3 rfl rfl TQ (Ab rfl (Ab rfl Ap)) (Ac rfl) fun w2 _ F s4 => gw 3 F rfl fun _ F => AG F s4 m2 1 rfl fun _ F => AG F s4 m0 0 rfl fun _ F => ?_
   refine Ae (parts := [(0, .tmp 19)]) Flat.str ([x1.Name] : List (List UInt8)) F s4 N5 rfl (by decide) rfl rfl rfl (by simp [Value.cells]) rfl rfl rfl fun v3 w3 _ F s5 => ?_
   obtain ⟨x2, hb, H⟩ := Aa H
   obtain ⟨_, hr_⟩ := (s5.f4.BK m1)
   refine Aw Flat.str F s5.f4 N5 rfl rfl rfl rfl hr_ rfl rfl hb rfl fun v4 w4 _ F s6 => ?_
   have s3135' := s6.f1.drop
   have s7 := s3135'.f3
   refine Ay F s7 rfl rfl Xr (Ag (fO s7 m1)) (Aq (fO s7 m1)) rfl fun w5 _ F s8 => ?_
   cases H
   exact gw 7 F rfl fun _ F => ⟨_, rfl, v4, F.sb, s8.f2.drop.f1.f1.f2⟩
  cases H
  obtain rfl := hr _ rfl
  exact ⟨v2, F.sb, s2⟩
 intro _ w6 hJ
 obtain ⟨v1, F, s9⟩ := hJ
 have H := R0
 clear R0 H0
 cases H
 exact ge 7 F rfl fun _ F => rt F ⟨v1, rfl, s9⟩
theorem O8 {w : World} {FF : List Nat} {g0 g1 : Nat} {v0 v300_0 v301_0 : Value} {a0 : List A6} {a1 : Int} {a300 : List A6} {a301 : List (List UInt8)} {r : (List (List UInt8))} (hst : B1 [A8 g0 22 [v300_0], A8 g1 218 [v301_0], Sl Ty.str v301_0 a301] w FF) (hr0 : Rd AB w FF v0 a0) (hr300_0 : Rd AB w FF v300_0 a300) (H : FW a0 a1 a300 a301 = some r) :
    Calls prog 99 #[v0, jI a1, clo 180 [jP g0, jP g1]] w (B9 fun u_ w_ => ∃ u0 : Value, u_ = .tuple ⟨[]⟩ ∧ SL w FF w_ [A8 g0 22 [v300_0], A8 g1 218 [u0], Sl Ty.str u0 r]) := by
 have s0 : SL w FF w [A8 g0 22 [v300_0], A8 g1 218 [v301_0], Sl Ty.str v301_0 a301] := SL.init w FF hst
 refine BD func99 ntmps99 0 rfl rfl rfl fun _ F0 => ?_
 unfold FW at H
 obtain ⟨o0, H0, R0⟩ := Aa H
 clear H
 refine BA (fun a w_ => ∃ p0 : (List (List UInt8)), o0 = .inr (p0) ∧ ∃ v1 : Value, Fr a 29 [] ∧ SL w FF w_ [A8 g0 22 [v300_0], A8 g1 218 [v1], Sl Ty.str v1 p0]) ?_ ?_
 ·have H := H0
  refine gc 1 F0 rfl fun _ F0 => Cy (Ds a0 a300) (fun s1 a w_ => ∃ v2 : Value, Fr a 29 [(0, v0), (1, jI s1.2), (2, clo 180 [jP g0, jP g1])] ∧ SL w FF w_ [A8 g0 22 [v300_0], A8 g1 218 [v2], Sl Ty.str v2 s1.1]) H ?_ ?_
  ·exact ⟨v301_0, F0.sb, s0⟩
  intro s1 _ w0 h0 o1 H hr
  obtain ⟨v2, F, s2⟩ := h0
  replace H : Ds a0 a300 s1 = some o1 := H
  unfold Ds at H
  refine gc 6 F rfl fun _ F => BB 9 F H (fun h1 H F => ?_) (fun h1 H F => ?_)
  ·refine gw 2 F rfl fun _ F => AK F rfl rfl <| gx F (Ah rfl underlying22 (fR hr0 s2)) 3 rfl rfl fun _ F => BB 15 F H (fun h2 H F => ?_) (fun h2 H F => ?_)
   ·obtain ⟨x0, h3, H⟩ := Aa H
    refine gw 2 F rfl fun _ F => AK F rfl rfl ?_
    obtain ⟨G0, h4, h5, h6, h7⟩ := SL.open_ (ps := [A8 g0 22 [v300_0], A8 g1 218 [v2], Sl Ty.str v2 s1.1]) (rest := []) s2.f2.f2.f2
    refine Hb (args := [.tmp 17]) F Ahk rfl rfl (SG (a0 := s1.2) (a1 := a300) (a2 := s1.1) h4 (hr300_0.pass s2.f2.f2.f2 h5) h3) rfl fun v3 w1 _ h8 F => ?_
    obtain ⟨v4, rfl, h9⟩ := h8
    have s3 := h7 _ _ h9
    refine gw 3 F rfl fun _ F => AH F H 5 4 rfl rfl rfl (fun ha H _ F => ?_) (fun ha H _ F => ?_)
    ·obtain ⟨x1, hb, H⟩ := Aa H
     obtain ⟨a3, c0, G1, hc, hd, he, hf⟩ := Rd.idx hr0 D5 rfl hb
     obtain ⟨v5, rfl, hg⟩ := (C7 he hf)
     replace hd := hd _ _ s3
     refine gw 2 F rfl fun _ F => gi F hc 0 rfl fun _ F => gx F (Ba HF rfl) 0 rfl rfl fun _ F => gx F (An BE rfl (Bn.at_ hd (o := 1) rfl)) 11 rfl rfl fun _ F => AH F H 6 7 rfl rfl rfl (fun hh H _ F => ?_) (fun hh H _ F => ?_)
     ·cases H
      obtain rfl := hr _ rfl
      replace H := R0
      try dsimp only at H
      cases H
      exact rt F ⟨v4, rfl, s3⟩
     cases H
     exact ⟨_, rfl, v4, F.sb, s3⟩
    cases H
    obtain rfl := hr _ rfl
    exact ⟨_, rfl, v4, F.sb, s3⟩
   cases H
   obtain rfl := hr _ rfl
   exact gw 11 F rfl fun _ F => ⟨_, rfl, v2, F.sb, s2⟩
  cases H
  obtain rfl := hr _ rfl
  exact gw 17 F rfl fun _ F => ⟨_, rfl, v2, F.sb, s2⟩
 intro _ w2 hJ
 obtain ⟨p0, rfl, v1, F, s4⟩ := hJ
 have H := R0
 clear R0 H0
 try dsimp only at H
 cases H
 exact Tg F (by rfl) ⟨_, rfl, ⟨v1, rfl, s4⟩⟩
theorem V6 {w : World} {v0 : Value} {a0 : List A6} {a1 : Int} {r : Int} (hr0 : Rd AB w [] v0 a0) (H : KO a0 a1 = some r) :
    Calls prog 156 #[v0, jI a1] w (B9 fun u_ w_ => u_ = jI r ∧ SL w [] w_ []) := by
 have s0 : SL w [] w [] := SL.Bt w
 refine BD func156 ntmps156 2 rfl rfl rfl fun _ F0 => ?_
 unfold KO at H
 refine Ar F0 s0 rfl (Ag (fR hr0 s0)) rfl fun g8 w9 _ F s1 => gw 5 F rfl fun _ F => Af F s1 Zp rfl rfl fun g0 w0 _ F s2 => ?_
 obtain ⟨x0, h0, H⟩ := Aa H
 obtain ⟨x1, h1, H⟩ := Aa H
 refine gw 3 F rfl fun _ F => Cq Bq s2.drop ?_
 obtain ⟨a2, c0, G0, h2, h3, h4, h5⟩ := Rd.idx hr0 D5 rfl h0
 obtain ⟨v1, rfl, h6⟩ := (C7 h4 h5)
 have hc144_ := h3; clear h3; have h3 := fun w_ (hC : SL w [] w_ [A8 g8 22 [v0]]) => hc144_ _ _ hC
 refine hq [0, 1, 2, 3, 4, 5, 6] F s2.drew.drop (QI.ld m0 rfl <| QI.ld m0 rfl <| QI.ev 1 rfl <| QI.ix h2 rfl <| QI.op rfl (fun _ hC => Ba HF rfl) rfl <| QI.op rfl (fun _ hC => An BE rfl (Bn.at_ (h3 _ hC) (o := 1) rfl)) rfl <| QI.op rfl (fun _ hC => Gc (cs := [.tmp 2, .tmp 5]) (vs := [jP g8, jP g0]) rfl) rfl <| QI.nil) (by kernel_rfl) fun _ F => ?_
 refine ho 7 rfl (by kernel_rfl) ?_
 have s3 := (SL.BI (T := Ty.str) s2.drew).f1.f2
 obtain ⟨G1, h7, h8, h9, ha⟩ := SL.open_ (ps := [A8 g8 22 [v0], A8 g0 218 [.slice none 0 0], Sl Ty.str (.slice none 0 0) []]) (rest := []) s3
 refine Df F (O8 (a300 := a0) (a301 := []) h7 (hr0.pass s3 h8) (hr0.pass s3 h8) h1) fun v2 w1 _ hb F => ?_
 obtain ⟨v3, rfl, hc⟩ := hb
 have s4 := ha _ _ hc
 refine gw 1 F rfl fun _ F => ⟨s4.f1.drop.f1.drop, ?_⟩
 refine CP (by kernel_rfl) ?_
 obtain ⟨x2, hd, H⟩ := Aa H
 obtain ⟨a3, c1, G2, he, hf, hg, hh⟩ := Rd.idx hr0 D5 rfl hd
 refine ge 4 F rfl fun _ F => ?_
 obtain ⟨v4, rfl, hi⟩ := (C7 hg hh)
 replace hf := hf _ _ s4
 refine AG F s4 m0 1 rfl fun _ F => gi F he 0 rfl fun _ F => gx F (Ba Ku rfl) 0 rfl rfl fun _ F => gx F (An Lp rfl (Bn.at_ hf (o := 2) rfl)) 0 rfl rfl fun _ F => ?_
 obtain ⟨o0, H0, R0⟩ := Aa H
 clear H
 refine gx F (Ah rfl underlying101 (fR hi s4)) 3 rfl rfl fun _ F => BA (fun a w_ => ∃ p0 : (List (List UInt8)), o0 = .inr (p0) ∧ ∃ v5 : Value, Fr a 51 [(5, jP g0)] ∧ SL w [] w_ [A8 g0 218 [v5], Sl Ty.str v5 p0]) ?_ ?_
 ·have H := H0
  refine gc 1 F rfl fun _ F => Cy (Gf a0 x2) (fun s5 a w_ => ∃ v6 : Value, Fr a 51 [(2, jP g8), (5, jP g0), (20, v4), (21, jI (x2.Fields.length : Int)), (22, jI s5.2)] ∧ SL w [] w_ [A8 g8 22 [v0], A8 g0 218 [v6], Sl Ty.str v6 s5.1]) H ?_ ?_
  ·exact ⟨v3, F.sb, s4⟩
  intro s5 _ w2 hj o1 H hr
  obtain ⟨v6, F, s6⟩ := hj
  replace H : Gf a0 x2 s5 = some o1 := H
  unfold Gf at H
  refine gc 6 F rfl fun _ F => AH F H 6 4 rfl rfl rfl (fun hk H _ F => ?_) (fun hk H _ F => ?_)
  ·obtain ⟨x3, hl, H⟩ := Aa H
   obtain ⟨a4, hm, hn⟩ := HM DO (Eb hi s6) Hd rfl hl
   refine gi F hm 0 rfl fun _ F => gx F (Av NR rfl hn rfl) 0 rfl rfl fun _ F => Af F s6 QD rfl rfl fun g1 w3 _ F s7 => Ai F s7 rfl rfl TQ (Ab rfl (Ab rfl Ap)) (Ac rfl) fun w4 _ F s8 => ?_
   obtain ⟨x4, hp, H⟩ := Aa H
   refine gw 7 F rfl fun _ F => AG F s8 m0 0 rfl fun _ F => B5 F s8 (Oh hp) 4 rfl rfl rfl rfl fun w5 _ F s9 => AH F H 14 2 rfl rfl rfl (fun hs H _ F => ?_) (fun hs H _ F => ?_)
   ·cases H
    obtain rfl := hr _ rfl
    replace H := R0
    try dsimp only at H
    cases H
    exact rt F ⟨rfl, s9.drop.drop.drop.drop⟩
   obtain ⟨x5, ht, H⟩ := Aa H
   refine AG F s9 m2 1 rfl fun _ F => AG F s9 m0 0 rfl fun _ F => B5 F s9 (Jk (s9.rd0 m3) ht) 3 rfl rfl rfl rfl fun w6 _ F sa => AH F H 14 2 rfl rfl rfl (fun hu H _ F => ?_) (fun hu H _ F => ?_)
   ·cases H
    obtain rfl := hr _ rfl
    replace H := R0
    try dsimp only at H
    cases H
    exact rt F ⟨rfl, sa.drop.drop.drop.drop⟩
   obtain ⟨x6, hv, H⟩ := Aa H
   refine AG F sa m1 1 rfl fun _ F => AG F sa m0 0 rfl fun _ F => B5 F sa (Vk (hr0.AN sa) hv) 4 rfl rfl rfl rfl fun w7 _ F sc => AH F H 14 4 rfl rfl rfl (fun hw H _ F => ?_) (fun hw H _ F => ?_)
   ·cases H
    obtain rfl := hr _ rfl
    replace H := R0
    try dsimp only at H
    cases H
    exact rt F ⟨rfl, sc.drop.drop.drop.drop⟩
   refine AG F sc m2 1 rfl fun _ F => AG F sc m0 0 rfl fun _ F => ?_
   refine Ae (parts := [(0, .tmp 44)]) Flat.str ([x3.Name] : List (List UInt8)) F sc N5 rfl (by decide) rfl rfl rfl (by simp [Value.cells]) rfl rfl rfl fun v7 w8 _ F sd => ?_
   obtain ⟨x7, hx, H⟩ := Aa H
   obtain ⟨_, hr_⟩ := (sd.f4.BK m1)
   refine Aw Flat.str F sd.f4 N5 rfl rfl rfl rfl hr_ rfl rfl hx rfl fun v8 wa _ F se => ?_
   have s11752' := se.f1.drop
   have sf := s11752'.f3
   refine Ay F sf rfl rfl Xr (Ag (fO sf m1)) (Aq (fO sf m1)) rfl fun wb _ F sg => ?_
   cases H
   exact gw 7 F rfl fun _ F => ⟨_, rfl, v8, F.sb, sg.f2.drop.f1.f1.f2⟩
  cases H
  obtain rfl := hr _ rfl
  exact ⟨_, rfl, v6, F.sb, s6.drop⟩
 intro _ wc hJ
 obtain ⟨p0, rfl, v5, F, sh⟩ := hJ
 have H := R0
 clear R0 H0
 try dsimp only at H
 refine ge 4 F rfl fun _ F => AG F sh m0 0 rfl fun _ F => gx F (Ah rfl underlying218 (fO sh m1)) 3 rfl rfl fun _ F => AH F H 7 8 rfl rfl rfl (fun hy H _ F => ?_) (fun hy H _ F => ?_)
 ·cases H
  exact rt F ⟨rfl, sh.drop.drop⟩
 cases H
 exact rt F ⟨rfl, sh.drop.drop⟩
theorem Rh {w : World} {v0 : Value} {a0 : List A6} {r : Int × Int} (hr0 : Rd AB w [] v0 a0) (H : K6 a0 = some r) :
    Calls prog 127 #[v0] w (B9 fun u_ w_ => u_ = .tuple ⟨[jI r.1, jI r.2]⟩ ∧ SL w [] w_ []) := by
 have s0 : SL w [] w [] := SL.Bt w
 refine BD func127 ntmps127 10 rfl rfl rfl fun _ F => ?_
 unfold K6 at H
 obtain ⟨o0, H0, R0⟩ := Aa H
 clear H
 refine gx F (Ah rfl underlying22 (fR hr0 s0)) 3 rfl rfl fun _ F => BA (fun a w_ => ∃ p0 : Unit, o0 = .inr (p0) ∧ Fr a 52 [] ∧ SL w [] w_ []) ?_ ?_
 ·have H := H0
  refine gc 1 F rfl fun _ F => Cy (GN a0) (fun s1 a w_ => Fr a 52 [(0, v0), (7, v0), (8, jI (a0.length : Int)), (9, jI s1)] ∧ SL w [] w_ []) H ?_ ?_
  ·exact ⟨F.sb, s0⟩
  intro s1 _ w0 h0 o1 H hr
  obtain ⟨F, s2⟩ := h0
  replace H : GN a0 s1 = some o1 := H
  unfold GN at H
  refine gc 6 F rfl fun _ F => AH F H 6 4 rfl rfl rfl (fun h1 H _ F => ?_) (fun h1 H _ F => ?_)
  ·obtain ⟨x0, h2, H⟩ := Aa H
   obtain ⟨a1, c0, G0, h3, h4, h5, h6⟩ := Rd.idx hr0 D5 rfl h2
   obtain ⟨v1, rfl, h7⟩ := (C7 h5 h6)
   replace h4 := h4 _ _ s2
   refine gw 1 F rfl fun _ F => gi F h3 0 rfl fun _ F => gx F (Av Ob rfl h4 rfl) 0 rfl rfl fun _ F => Af F s2 OB rfl rfl fun g0 w1 _ F s3 => gw 1 F rfl fun _ F => Ai F s3 rfl rfl Q4 (Ab rfl (Ab rfl (Ab (Aq (fR h7 s3)) Ap))) (Ac rfl) fun w2 _ F s4 => ?_
   obtain ⟨o2, H1, R1⟩ := Aa H
   clear H
   refine gw 8 F rfl fun _ F => BA (fun a w_ => Fr a 52 [(0, v0), (4, jI s1), (6, jI o2), (7, v0), (8, jI (a0.length : Int)), (9, jI s1)] ∧ SL w [] w_ []) ?_ ?_
   ·have H := H1
    refine gc 8 F rfl fun _ F => AH F H 4 1 rfl rfl rfl (fun h8 H _ F => ?_) (fun h8 H _ F => ?_)
    ·cases H
     exact ⟨F.sb, s4.drop⟩
    obtain ⟨x1, h9, H⟩ := Aa H
    refine Be (!x1) (fun ha => ?_) (fun ha => ?_)
    ·replace H := Mt ha H
     refine Cq Bq s4 ?_
     refine hq [0, 1] F s4.drew (QI.ev 1 rfl <| QI.ld m0 rfl <| QI.nil) (by kernel_rfl) fun _ F => ?_
     refine ho 2 rfl (by kernel_rfl) ?_
     refine B5 F s4.drew (Oh h9) 1 rfl rfl rfl rfl fun w3 _ F s5 => ⟨s5, ?_⟩
     refine hq [3, 4, 5, 6, 7, 8, 9, 10] F s5 (QI.ev 2 rfl <| QI.kn (dj := 25) rfl ha <| QI.ev 6 rfl <| QI.nil) (by kernel_rfl) fun _ F => ?_
     refine CP (by kernel_rfl) ?_
     cases H
     exact ge 6 F rfl fun _ F => ⟨F.sb, s5.drop⟩
    replace H := Ms ha H
    obtain ⟨x2, hb, H⟩ := Aa H
    obtain ⟨x3, hc, H⟩ := Aa H
    refine Cq Bq s4 ?_
    refine hq [0, 1] F s4.drew (QI.ev 1 rfl <| QI.ld m0 rfl <| QI.nil) (by kernel_rfl) fun _ F => ?_
    refine ho 2 rfl (by kernel_rfl) ?_
    refine B5 F s4.drew (Oh h9) 1 rfl rfl rfl rfl fun w4 _ F s6 => ⟨s6, ?_⟩
    refine hq [3, 4, 6, 7] F s6 (QI.ev 2 rfl <| QI.kn (dj := 25) rfl ha <| QI.ev 1 rfl <| QI.gop rfl (fun _ hC => An IC rfl (hC.FN m0 rfl)) rfl rfl rfl rfl rfl <| QI.nil) (by kernel_rfl) fun _ F => ?_
    refine ho 5 rfl (by kernel_rfl) ?_
    refine AK F rfl rfl <| Df F (W6 hb) fun v2 w5 _ hd F => ?_
    obtain ⟨_, rfl, he⟩ := hd
    have s7 := s6.add he
    refine gw 1 F rfl fun _ F => ⟨s7.drop, ?_⟩
    refine ho 8 rfl (by kernel_rfl) ?_
    refine AK F rfl rfl <| B5 F s7 (Jk (s7.rd0 m0) hc) 1 rfl rfl rfl rfl fun w6 _ F s8 => ⟨s8.drop, ?_⟩
    refine hq [9, 10] F s8.drop (QI.ev 2 rfl <| QI.nil) (by kernel_rfl) fun _ F => ?_
    refine CP (by kernel_rfl) ?_
    refine ge 1 F rfl fun _ F => AH F H 4 4 rfl rfl rfl (fun hf H _ F => ?_) (fun hf H _ F => ?_)
    ·cases H
     exact ⟨F.sb, s8.drop.drop⟩
    obtain ⟨x4, hg, H⟩ := Aa H
    obtain ⟨v3, hh, hi⟩ := Rd.cut hr0 D5 rfl hg none (some s1) (.inr ⟨rfl, rfl⟩) (.inl rfl)
    obtain ⟨x5, hj, H⟩ := Aa H
    refine gx F (hh _ _ _ _ _ .i64 .i64 _ _ _ _ _ rfl trivial rfl) 0 rfl rfl fun _ F => gx F (Gc (cs := [.tmp 5]) (vs := [jP g0]) rfl) 0 rfl rfl fun _ F => ?_
    obtain ⟨G1, hk, hl, hm, hn⟩ := SL.open_ (ps := [A8 g0 103 [.string ⟨⟨x0.Name⟩⟩, jI x0.B2, v1]]) (rest := [Sl Ty.str v2 x2]) s8.f1
    refine Df F (Ip (a200 := (⟨x0.Name, x0.B2, x0.Fields⟩ : A6)) hk (hi.pass s8.f1 hl) (h7.pass s8.f1 hl) hj) fun v4 w7 _ hp F => ?_
    obtain ⟨rfl, hs⟩ := hp
    have s9 := hn _ _ hs
    refine gw 3 F rfl fun _ F => AH F H 4 3 rfl rfl rfl (fun ht H _ F => ?_) (fun ht H _ F => ?_)
    ·cases H
     exact ⟨F.sb, s9.drop.drop⟩
    refine AG F s9 m0 2 rfl fun _ F => BB 41 F H (fun hu H F => ?_) (fun hu H F => ?_)
    ·cases H
     exact gw 13 F rfl fun _ F => ⟨F.sb, s9.drop.drop⟩
    refine gw 1 F rfl fun _ F => AK F rfl rfl <| AG F s9 m0 6 rfl fun _ F => AH F H 4 3 rfl rfl rfl (fun hv H _ F => ?_) (fun hv H _ F => ?_)
    ·cases H
     exact ⟨F.sb, s9.drop.drop⟩
    obtain ⟨x6, hw, H⟩ := Aa H
    refine B5 F s9 (V6 (hr0.AN s9) hw) 3 rfl rfl rfl rfl fun w8 _ F sa => ?_
    cases H
    exact ⟨F.sb, sa.drop.drop⟩
   intro _ w9 hJ
   obtain ⟨F, sc⟩ := hJ
   have H := R1
   clear R1 H1
   refine ge 7 F rfl fun _ F => AH F H 15 7 rfl rfl rfl (fun hx H _ F => ?_) (fun hx H _ F => ?_)
   ·cases H
    obtain rfl := hr _ rfl
    replace H := R0
    try dsimp only at H
    cases H
    exact rt F ⟨rfl, sc⟩
   cases H
   exact ⟨_, rfl, F.sb, sc⟩
  cases H
  obtain rfl := hr _ rfl
  exact ⟨_, rfl, F.sb, s2⟩
 intro _ wa hJ
 obtain ⟨p0, rfl, F, sd⟩ := hJ
 have H := R0
 clear R0 H0
 try dsimp only at H
 cases H
 exact ge 8 F rfl fun _ F => rt F ⟨rfl, sd⟩
theorem Vn {w : World} {v0 : Value} {a0 : List A6} {a1 : UInt8} {r : Bool} (hr0 : Rd AB w [] v0 a0) (H : Lj a0 a1 = some r) :
    Calls prog 129 #[v0, jU (a1.toNat : Int)] w (B9 fun u_ w_ => u_ = .bool r ∧ SL w [] w_ []) := by
 have s0 : SL w [] w [] := SL.Bt w
 refine BD func129 ntmps129 9 rfl rfl rfl fun _ F => ?_
 unfold Lj at H
 obtain ⟨x0, h0, H⟩ := Aa H
 refine B5 F s0 (Ho (hr0.AN s0) h0) 1 rfl rfl rfl rfl fun w0 _ F s1 => BB 8 F H (fun h1 H F => ?_) (fun h1 H F => ?_)
 ·refine gw 4 F rfl fun _ F => BB 12 F H (fun h2 H F => ?_) (fun h2 H F => ?_)
  ·cases H
   exact gw 7 F rfl fun _ F => rt F ⟨rfl, s1⟩
  cases H
  exact gw 7 F rfl fun _ F => rt F ⟨rfl, s1⟩
 cases H
 exact gw 11 F rfl fun _ F => rt F ⟨rfl, s1⟩
theorem Pu {w : World} {FF : List Nat} {g1 : Nat} {v1_0 v1_1 : Value} {a0 : UInt8} {a1 : AA} {r : Bool} (hst : B1 [A8 g1 110 [v1_0, v1_1, jI a1.Fn]] w FF) (hr1_0 : Rd AB w FF v1_0 a1.Classes) (hr1_1 : Rd B8 w FF v1_1 a1.AQ) (H : Jn a0 a1 = some r) :
    Calls prog 128 #[jU (a0.toNat : Int), jP g1] w (B9 fun u_ w_ => u_ = .bool r ∧ SL w FF w_ [A8 g1 110 [v1_0, v1_1, jI a1.Fn]]) := by
 have s0 : SL w FF w [A8 g1 110 [v1_0, v1_1, jI a1.Fn]] := SL.init w FF hst
 refine BD func128 ntmps128 8 rfl rfl rfl fun _ F => ?_
 unfold Jn at H
 obtain ⟨x0, h0, H⟩ := Aa H
 refine AG F s0 m0 1 rfl fun _ F => B5 F s0 (Vn (hr1_0.AN s0) h0) 5 rfl rfl rfl rfl fun w0 _ F s1 => ?_
 cases H
 exact rt F ⟨rfl, s1⟩
theorem Jz {w : World} {FF : List Nat} {g0 : Nat} {v0 v200_0 v200_1 : Value} {a0 : List UInt8} {a200 : AA} {r : Int} (hst : B1 [A8 g0 110 [v200_0, v200_1, jI a200.Fn]] w FF) (hr0 : Rd Ty.u8 w FF v0 a0) (hr200_0 : Rd AB w FF v200_0 a200.Classes) (hr200_1 : Rd B8 w FF v200_1 a200.AQ) (H : Dl a0 a200 = some r) :
    Calls prog 157 #[v0, clo 128 [jP g0]] w (B9 fun u_ w_ => u_ = jI r ∧ SL w FF w_ [A8 g0 110 [v200_0, v200_1, jI a200.Fn]]) := by
 have s0 : SL w FF w [A8 g0 110 [v200_0, v200_1, jI a200.Fn]] := SL.init w FF hst
 refine BD func157 ntmps157 9 rfl rfl rfl fun _ F => ?_
 unfold Dl at H
 obtain ⟨o0, H0, R0⟩ := Aa H
 clear H
 refine gx F (Ah rfl underlying47 (fR hr0 s0)) 3 rfl rfl fun _ F => BA (fun a w_ => ∃ p0 : Unit, o0 = .inr (p0) ∧ Fr a 19 [] ∧ SL w FF w_ [A8 g0 110 [v200_0, v200_1, jI a200.Fn]]) ?_ ?_
 ·have H := H0
  refine gc 1 F rfl fun _ F => Cy (Cb a0 a200) (fun s1 a w_ => Fr a 19 [(0, v0), (1, clo 128 [jP g0]), (7, jI (a0.length : Int)), (8, jI s1)] ∧ SL w FF w_ [A8 g0 110 [v200_0, v200_1, jI a200.Fn]]) H ?_ ?_
  ·exact ⟨F.sb, s0⟩
  intro s1 _ w0 h0 o1 H hr
  obtain ⟨F, s2⟩ := h0
  replace H : Cb a0 a200 s1 = some o1 := H
  unfold Cb at H
  refine gc 6 F rfl fun _ F => AH F H 15 4 rfl rfl rfl (fun h1 H _ F => ?_) (fun h1 H _ F => ?_)
  ·obtain ⟨x0, h2, H⟩ := Aa H
   obtain ⟨a2, h3, h4⟩ := HM Flat.u8 (Eb hr0 s2) Br rfl h2
   obtain ⟨x1, h5, H⟩ := Aa H
   refine gi F h3 0 rfl fun _ F => gx F (An BF rfl (Bn.at_ h4 (o := 0) rfl)) 0 rfl rfl fun _ F => ?_
   obtain ⟨G0, h6, h7, h8, h9⟩ := SL.open_ (ps := [A8 g0 110 [v200_0, v200_1, jI a200.Fn]]) (rest := []) s2
   refine Hb (args := [.tmp 15]) F XC rfl rfl (Pu (a0 := x0) (a1 := (⟨a200.Classes, a200.AQ, a200.Fn⟩ : AA)) h6 (hr200_0.pass s2 h7) (hr200_1.pass s2 h7) h5) rfl fun v1 w1 _ ha F => ?_
   obtain ⟨rfl, hb⟩ := ha
   have s3 := h9 _ _ hb
   refine gw 2 F rfl fun _ F => AH F H 13 7 rfl rfl rfl (fun hc H _ F => ?_) (fun hc H _ F => ?_)
   ·cases H
    obtain rfl := hr _ rfl
    replace H := R0
    try dsimp only at H
    cases H
    exact rt F ⟨rfl, s3⟩
   cases H
   exact ⟨_, rfl, F.sb, s3⟩
  cases H
  obtain rfl := hr _ rfl
  exact ⟨_, rfl, F.sb, s2⟩
 intro _ w2 hJ
 obtain ⟨p0, rfl, F, s4⟩ := hJ
 have H := R0
 clear R0 H0
 try dsimp only at H
 cases H
 exact ge 7 F rfl fun _ F => rt F ⟨rfl, s4⟩
theorem Jb {w : World} {FF : List Nat} {g0 : Nat} {v0 v200_0 v200_1 : Value} {a0 : List UInt8} {a200 : AA} {r : Bool} (hst : B1 [A8 g0 110 [v200_0, v200_1, jI a200.Fn]] w FF) (hr0 : Rd Ty.u8 w FF v0 a0) (hr200_0 : Rd AB w FF v200_0 a200.Classes) (hr200_1 : Rd B8 w FF v200_1 a200.AQ) (H : Cs a0 a200 = some r) :
    Calls prog 130 #[v0, clo 128 [jP g0]] w (B9 fun u_ w_ => u_ = .bool r ∧ SL w FF w_ [A8 g0 110 [v200_0, v200_1, jI a200.Fn]]) := by
 have s0 : SL w FF w [A8 g0 110 [v200_0, v200_1, jI a200.Fn]] := SL.init w FF hst
 refine BD func130 ntmps130 9 rfl rfl rfl fun _ F => ?_
 unfold Cs at H
 obtain ⟨x0, h0, H⟩ := Aa H
 obtain ⟨G0, h1, h2, h3, h4⟩ := SL.open_ (ps := [A8 g0 110 [v200_0, v200_1, jI a200.Fn]]) (rest := []) s0
 refine Df F (Jz (a200 := (⟨a200.Classes, a200.AQ, a200.Fn⟩ : AA)) h1 (hr0.pass s0 h2) (hr200_0.pass s0 h2) (hr200_1.pass s0 h2) h0) fun v1 w0 _ h5 F => ?_
 obtain ⟨rfl, h6⟩ := h5
 have s1 := h4 _ _ h6
 cases H
 exact gw 5 F rfl fun _ F => rt F ⟨rfl, s1⟩
theorem Ym {w : World} {v0_0 v0_1 : Value} {a0 : AA} {a1 : Int} {r : Int} (hr0_0 : Rd AB w [] v0_0 a0.Classes) (hr0_1 : Rd B8 w [] v0_1 a0.AQ) (H : M4 a0 a1 = some r) :
    Calls prog 103 #[.agg ⟨[v0_0, v0_1, jI a0.Fn]⟩, jI a1] w (B9 fun u_ w_ => u_ = jI r ∧ SL w [] w_ []) := by
 have s0 : SL w [] w [] := SL.Bt w
 refine BD func103 ntmps103 2 rfl rfl rfl fun _ F0 => ?_
 unfold M4 at H
 refine Ar F0 s0 rfl rfl rfl fun g8 w9 _ F s1 => ?_
 obtain ⟨x0, h0, H⟩ := Aa H
 refine gw 7 F rfl fun _ F => AG F s1 m0 0 rfl fun _ F => B5 F s1 (Rh (hr0_0.AN s1) h0) 13 rfl rfl rfl rfl fun w0 _ F s2 => AH F H 8 6 rfl rfl rfl (fun h1 H _ F => ?_) (fun h1 H _ F => ?_)
 ·cases H
  exact rt F ⟨rfl, s2.drop⟩
 refine AG F s2 m0 0 rfl fun _ F => gx F (Ah rfl underlying108 (fR hr0_1 s2)) 3 rfl rfl fun _ F => AH F H 7 6 rfl rfl rfl (fun h2 H _ F => ?_) (fun h2 H _ F => ?_)
 ·cases H
  exact rt F ⟨rfl, s2.drop⟩
 refine AG F s2 m0 0 rfl fun _ F => ?_
 obtain ⟨o0, H0, R0⟩ := Aa H
 clear H
 refine gx F (Ah rfl underlying108 (fR hr0_1 s2)) 3 rfl rfl fun _ F => BA (fun a w_ => ∃ p0 : Unit, o0 = .inr (p0) ∧ Fr a 79 [(1, jI a1), (2, jP g8)] ∧ SL w [] w_ [A8 g8 110 [v0_0, v0_1, jI a0.Fn]]) ?_ ?_
 ·have H := H0
  refine gc 1 F rfl fun _ F => Cy (JV a0) (fun s3 a w_ => Fr a 79 [(1, jI a1), (2, jP g8), (26, v0_1), (27, jI (a0.AQ.length : Int)), (28, jI s3)] ∧ SL w [] w_ [A8 g8 110 [v0_0, v0_1, jI a0.Fn]]) H ?_ ?_
  ·exact ⟨F.sb, s2⟩
  intro s3 _ w1 h3 o1 H hr
  obtain ⟨F, s4⟩ := h3
  replace H : JV a0 s3 = some o1 := H
  unfold JV at H
  refine gc 6 F rfl fun _ F => AH F H 6 4 rfl rfl rfl (fun h4 H _ F => ?_) (fun h4 H _ F => ?_)
  ·obtain ⟨x1, h5, H⟩ := Aa H
   obtain ⟨a2, c0, G0, h6, h7, h8, h9⟩ := Rd.idx hr0_1 E2 rfl h5
   obtain ⟨v0, rfl, ha⟩ := (Ga h8 h9)
   replace h7 := h7 _ _ s4
   refine gi F h6 0 rfl fun _ F => gx F (Av J1 rfl h7 rfl) 0 rfl rfl fun _ F => Af F s4 KT rfl rfl fun g0 w2 _ F s5 => Ai F s5 rfl rfl OG (Ab (Aq (fR ha s5)) (Ab rfl Ap)) (Ac rfl) fun w3 _ F s6 => gw 6 F rfl fun _ F => AG F s6 m0 0 rfl fun _ F => gx F (Ah rfl underlying47 (fR ha s6)) 3 rfl rfl fun _ F => AH F H 13 4 rfl rfl rfl (fun hb H _ F => ?_) (fun hb H _ F => ?_)
   ·cases H
    obtain rfl := hr _ rfl
    replace H := R0
    try dsimp only at H
    cases H
    exact rt F ⟨rfl, s6.drop.drop⟩
   obtain ⟨x2, hc, H⟩ := Aa H
   refine gx F (Gc (cs := [.tmp 2]) (vs := [jP g8]) rfl) 6 rfl rfl fun _ F => ?_
   obtain ⟨G1, hd, he, hf, hg⟩ := SL.open_ (ps := [A8 g8 110 [v0_0, v0_1, jI a0.Fn]]) (rest := [A8 g0 50 [v0, jU (x1.Result.toNat : Int)]]) s6.f1
   refine AG F s6 m0 1 rfl fun _ F => Df F (Jb (a200 := (⟨a0.Classes, a0.AQ, a0.Fn⟩ : AA)) hd (ha.pass s6.f1 he) (hr0_0.pass s6.f1 he) (hr0_1.pass s6.f1 he) hc) fun v1 w4 _ hh F => ?_
   obtain ⟨rfl, hi⟩ := hh
   have s7 := hg _ _ hi
   refine gw 1 F rfl fun _ F => BB 41 F H (fun hj H F => ?_) (fun hj H F => ?_)
   ·cases H
    obtain rfl := hr _ rfl
    replace H := R0
    try dsimp only at H
    cases H
    exact gw 25 F rfl fun _ F => rt F ⟨rfl, s7.drop.drop⟩
   refine gw 1 F rfl fun _ F => AK F rfl rfl <| AG F s7 m1 2 rfl fun _ F => BB 45 F H (fun hk H F => ?_) (fun hk H F => ?_)
   ·refine gw 2 F rfl fun _ F => AK F rfl rfl <| AG F s7 m1 0 rfl fun _ F => ?_
    obtain ⟨x3, hl, H⟩ := Aa H
    refine AK F rfl rfl ?_
    obtain ⟨G2, hm, hn, hp, hs⟩ := SL.open_ (ps := [A8 g8 110 [v0_0, v0_1, jI a0.Fn]]) (rest := [A8 g0 50 [v0, jU (x1.Result.toNat : Int)]]) s7
    refine Hb (args := [.tmp 48]) F XC rfl rfl (Pu (a0 := x1.Result) (a1 := (⟨a0.Classes, a0.AQ, a0.Fn⟩ : AA)) hm (hr0_0.pass s7 hn) (hr0_1.pass s7 hn) hl) rfl fun v2 w5 _ ht F => ?_
    obtain ⟨rfl, hu⟩ := ht
    have s8 := hs _ _ hu
    refine gw 4 F rfl fun _ F => AH F H 12 7 rfl rfl rfl (fun hv H _ F => ?_) (fun hv H _ F => ?_)
    ·cases H
     obtain rfl := hr _ rfl
     replace H := R0
     try dsimp only at H
     cases H
     exact rt F ⟨rfl, s8.drop.drop⟩
    cases H
    exact ⟨_, rfl, F.sb, s8.f1.drop⟩
   cases H
   exact gw 16 F rfl fun _ F => ⟨_, rfl, F.sb, s7.f1.drop⟩
  cases H
  obtain rfl := hr _ rfl
  exact ⟨_, rfl, F.sb, s4⟩
 intro _ w6 hJ
 obtain ⟨p0, rfl, F, s9⟩ := hJ
 have H := R0
 clear R0 H0
 try dsimp only at H
 refine ge 5 F rfl fun _ F => AG F s9 m0 2 rfl fun _ F => BB 56 F H (fun hw H F => ?_) (fun hw H F => ?_)
 ·cases H
  exact gw 17 F rfl fun _ F => rt F ⟨rfl, s9.drop⟩
 refine gw 1 F rfl fun _ F => AK F rfl rfl <| AG F s9 m0 1 rfl fun _ F => AK F rfl rfl <| AG F s9 m0 0 rfl fun _ F => AK F rfl rfl <| gx F (Ah rfl underlying108 (fR hr0_1 s9)) 4 rfl rfl fun _ F => AH F H 7 3 rfl rfl rfl (fun hx H _ F => ?_) (fun hx H _ F => ?_)
 ·cases H
  exact rt F ⟨rfl, s9.drop⟩
 obtain ⟨x4, hy, H⟩ := Aa H
 obtain ⟨x5, hz, H⟩ := Aa H
 refine Cq Bq s9 ?_
 have sa := s9.drew
 obtain ⟨a3, c1, G3, h10, h11, h12, h13⟩ := Rd.idx hr0_1 E2 rfl hy
 obtain ⟨v3, rfl, h14⟩ := (Ga h12 h13)
 have hc6746_ := h11; clear h11; have h11 := fun w_ (hC : SL w [] w_ [A8 g8 110 [v0_0, v0_1, jI a0.Fn]]) => hc6746_ _ _ hC
 refine hq [0, 1, 2, 3, 4, 5, 6, 7, 8, 9] F sa (QI.ev 1 rfl <| QI.ld m0 rfl <| QI.ev 1 rfl <| QI.ld m0 rfl <| QI.ev 1 rfl <| QI.ld m0 rfl <| QI.ix h10 rfl <| QI.op rfl (fun _ hC => Ba M7 rfl) rfl <| QI.op rfl (fun _ hC => An M1 rfl (Bn.at_ (h11 _ hC) (o := 0) rfl)) rfl <| QI.ev 1 rfl <| QI.nil) (by kernel_rfl) fun _ F => ?_
 refine CJ [0, 1, 2, 3, 4, 5, 6, 7, 8, 9, 10, 11, 12, 13, 14, 15] (fun a w_ => ∃ g1 : Nat, Fr a 79 [(77, jI x5.2)] ∧ SL w [] w_ [A8 g8 110 [v0_0, v0_1, jI a0.Fn], A8 g1 118 (jI x5.1.Locals :: jI x5.1.Height :: AU x5.1.Slots)]) ?_ fun hD0 => ?_
 ·rintro a w_ ⟨g1, F, sc⟩
  refine hq [16] F sc.f1.drop (QI.ev 1 rfl <| QI.nil) (by kernel_rfl) fun _ F => ?_
  refine CP (by kernel_rfl) ?_
  cases H
  exact ge 8 F rfl fun _ F => rt F ⟨rfl, sc.drop.drop⟩
 refine E5 10 14 rfl rfl (by kernel_rfl) ?_ ?_
 ·refine B5 F sa (LP (hr0_0.AN sa) (h14.AN sa) hz) 1 rfl rfl rfl rfl fun w7 _ F sd => ⟨sd, ?_⟩
  refine hq [11, 12, 13] F sd (QI.ev 3 rfl <| QI.nil) (by kernel_rfl) fun _ F => ?_
  refine ho 14 rfl (by kernel_rfl) ?_
  refine Af F sd AO rfl rfl fun g1 w8 _ F se => gw 1 F rfl fun _ F => ⟨se.drop, ?_⟩
  refine ho 15 rfl (by kernel_rfl) ?_
  refine AP (ds := (jI x5.1.Locals :: jI x5.1.Height :: AU x5.1.Slots)) F se rfl rfl (by simpa using AX) (Ab rfl (Ab rfl (Bp _))) (by simp) fun wa _ F sf => ?_
  exact gw 1 F rfl fun _ F => ⟨sf.drop, BJ hD0 ⟨g1, F.sb, sf.f1⟩ (by kernel_rfl)⟩
 refine Af F sa AO rfl rfl fun g1 w8 _ F se => gw 1 F rfl fun _ F => ⟨se.drop, ?_⟩
 refine ho 10 rfl (by kernel_rfl) ?_
 refine B5 F se (LP (hr0_0.AN se) (h14.AN se) hz) 1 rfl rfl rfl rfl fun w7 _ F sd => ⟨sd.drop, ?_⟩
 refine hq [11, 12, 13] F sd.drop (QI.ev 3 rfl <| QI.nil) (by kernel_rfl) fun _ F => ?_
 refine ho 15 rfl (by kernel_rfl) ?_
 refine AP (ds := (jI x5.1.Locals :: jI x5.1.Height :: AU x5.1.Slots)) F sd rfl rfl (by simpa using AX) (Ab rfl (Ab rfl (Bp _))) (by simp) fun wa _ F sf => ?_
 exact gw 1 F rfl fun _ F => ⟨sf.drop, BJ hD0 ⟨g1, F.sb, sf.f1⟩ (by kernel_rfl)⟩
theorem Rf {w : World} {a0 : UInt8} {r : Int × Int} (H : K8 a0 = some r) :
    Calls prog 76 #[jU (a0.toNat : Int)] w (B9 fun u_ w_ => u_ = .tuple ⟨[jI r.1, jI r.2]⟩ ∧ SL w [] w_ []) := by
 have s0 : SL w [] w [] := SL.Bt w
 refine BD func76 ntmps76 30 rfl rfl rfl fun _ F => ?_
 unfold K8 at H
 refine AH F H 23 4 rfl rfl rfl (fun h0 H _ F => ?_) (fun h0 H _ F => ?_)
 ·cases H
  exact rt F ⟨rfl, s0⟩
 obtain ⟨o0, H0, R0⟩ := Aa H
 clear H
 refine BA (fun a w_ => Fr a 23 [(4, jU (a0.toNat : Int)), (7, .bool o0)] ∧ SL w [] w_ []) ?_ ?_
 ·have H := H0
  refine gc 6 F rfl fun _ F => AH F H 1 4 rfl rfl rfl (fun h1 H _ F => ?_) (fun h1 H _ F => ?_)
  ·cases H
   exact ⟨F.sb, s0⟩
  cases H
  exact ⟨F.sb, s0⟩
 intro _ w0 hJ
 obtain ⟨F, s1⟩ := hJ
 have H := R0
 clear R0 H0
 refine ge 1 F rfl fun _ F => AH F H 23 4 rfl rfl rfl (fun h2 H _ F => ?_) (fun h2 H _ F => ?_)
 ·cases H
  exact rt F ⟨rfl, s1⟩
 obtain ⟨o1, H1, R1⟩ := Aa H
 clear H
 refine BA (fun a w_ => Fr a 23 [(4, jU (a0.toNat : Int)), (10, .bool o1)] ∧ SL w [] w_ []) ?_ ?_
 ·have H := H1
  refine gc 6 F rfl fun _ F => AH F H 1 4 rfl rfl rfl (fun h3 H _ F => ?_) (fun h3 H _ F => ?_)
  ·cases H
   exact ⟨F.sb, s1⟩
  cases H
  exact ⟨F.sb, s1⟩
 intro _ w1 hJ
 obtain ⟨F, s2⟩ := hJ
 have H := R1
 clear R1 H1
 refine ge 1 F rfl fun _ F => AH F H 23 4 rfl rfl rfl (fun h4 H _ F => ?_) (fun h4 H _ F => ?_)
 ·cases H
  exact rt F ⟨rfl, s2⟩
 obtain ⟨o2, H2, R2⟩ := Aa H
 clear H
 refine BA (fun a w_ => Fr a 23 [(4, jU (a0.toNat : Int)), (13, .bool o2)] ∧ SL w [] w_ []) ?_ ?_
 ·have H := H2
  refine gc 6 F rfl fun _ F => AH F H 1 6 rfl rfl rfl (fun h5 H _ F => ?_) (fun h5 H _ F => ?_)
  ·cases H
   exact ⟨F.sb, s2⟩
  refine AH F H 1 4 rfl rfl rfl (fun h6 H _ F => ?_) (fun h6 H _ F => ?_)
  ·cases H
   exact ⟨F.sb, s2⟩
  cases H
  exact ⟨F.sb, s2⟩
 intro _ w2 hJ
 obtain ⟨F, s3⟩ := hJ
 have H := R2
 clear R2 H2
 refine ge 1 F rfl fun _ F => AH F H 23 3 rfl rfl rfl (fun h7 H _ F => ?_) (fun h7 H _ F => ?_)
 ·cases H
  exact rt F ⟨rfl, s3⟩
 obtain ⟨o3, H3, R3⟩ := Aa H
 clear H
 refine BA (fun a w_ => Fr a 23 [(17, .bool o3)] ∧ SL w [] w_ []) ?_ ?_
 ·have H := H3
  refine gc 6 F rfl fun _ F => AH F H 1 6 rfl rfl rfl (fun h8 H _ F => ?_) (fun h8 H _ F => ?_)
  ·cases H
   exact ⟨F.sb, s3⟩
  refine AH F H 1 6 rfl rfl rfl (fun h9 H _ F => ?_) (fun h9 H _ F => ?_)
  ·cases H
   exact ⟨F.sb, s3⟩
  refine AH F H 1 6 rfl rfl rfl (fun ha H _ F => ?_) (fun ha H _ F => ?_)
  ·cases H
   exact ⟨F.sb, s3⟩
  refine AH F H 1 4 rfl rfl rfl (fun hb H _ F => ?_) (fun hb H _ F => ?_)
  ·cases H
   exact ⟨F.sb, s3⟩
  cases H
  exact ⟨F.sb, s3⟩
 intro _ w3 hJ
 obtain ⟨F, s4⟩ := hJ
 have H := R3
 clear R3 H3
 refine ge 1 F rfl fun _ F => AH F H 22 21 rfl rfl rfl (fun hc H _ F => ?_) (fun hc H _ F => ?_)
 ·cases H
  exact rt F ⟨rfl, s4⟩
 cases H
 exact rt F ⟨rfl, s4⟩
theorem J4 {w : World} {a0 : UInt8} {r : Int} (H : HS a0 = some r) :
    Calls prog 74 #[jU (a0.toNat : Int)] w (B9 fun u_ w_ => u_ = jI r ∧ SL w [] w_ []) := by
 have s0 : SL w [] w [] := SL.Bt w
 refine BD func74 ntmps74 12 rfl rfl rfl fun _ F => ?_
 unfold HS at H
 refine AH F H 7 5 rfl rfl rfl (fun h0 H _ F => ?_) (fun h0 H _ F => ?_)
 ·cases H
  exact rt F ⟨rfl, s0⟩
 obtain ⟨x0, h1, H⟩ := Aa H
 refine B5 F s0 (Rf h1) 17 rfl rfl rfl rfl fun w0 _ F s1 => ?_
 cases H
 exact rt F ⟨rfl, s1⟩
theorem Qf {w : World} {FF : List Nat} {g0 g0_4 g0_5 g0_6 : Nat} {v0_0 v0_1 v0_3 : Value} {a0 : AV} {a1 : A9} {r : Bool × AV} (hst : B1 [A8 g0 154 [v0_0, v0_1, jI a0.e.Fn, v0_3, .map (some g0_4), .map (some g0_5), .map (some g0_6), jI a0.BU], Mp (Value.int .i64) (fun x : A4 => Value.agg ⟨(jI x.Locals :: jI x.Height :: AU x.Slots)⟩) g0_4 a0.frames, Mp (Value.int .i64) (fun _ : Unit => Value.agg ⟨[]⟩) g0_5 a0.fresh, Mp (Value.int .i64) (Value.int .i64) g0_6 a0.taken] w FF) (hr0_0 : Rd AB w FF v0_0 a0.e.Classes) (hr0_1 : Rd B8 w FF v0_1 a0.e.AQ) (hr0_3 : Rd Ty.u8 w FF v0_3 a0.code) (H : Hy a0 a1 = some r) :
    Calls prog 133 #[jP g0, .agg ⟨[jI a1.At, jU (a1.Op.toNat : Int), jI a1.A, jI a1.B]⟩] w (B9 fun u_ w_ => ∃ u0 u1 u2 : Value, u_ = .bool r.1 ∧ BS AB v0_0 a0.e.Classes u0 r.2.e.Classes ∧ BS B8 v0_1 a0.e.AQ u1 r.2.e.AQ ∧ BS Ty.u8 v0_3 a0.code u2 r.2.code ∧ SL w FF w_ [A8 g0 154 [u0, u1, jI r.2.e.Fn, u2, .map (some g0_4), .map (some g0_5), .map (some g0_6), jI r.2.BU], Mp (Value.int .i64) (fun x : A4 => Value.agg ⟨(jI x.Locals :: jI x.Height :: AU x.Slots)⟩) g0_4 r.2.frames, Mp (Value.int .i64) (fun _ : Unit => Value.agg ⟨[]⟩) g0_5 r.2.fresh, Mp (Value.int .i64) (Value.int .i64) g0_6 r.2.taken]) := by
 have s0 : SL w FF w [A8 g0 154 [v0_0, v0_1, jI a0.e.Fn, v0_3, .map (some g0_4), .map (some g0_5), .map (some g0_6), jI a0.BU], Mp (Value.int .i64) (fun x : A4 => Value.agg ⟨(jI x.Locals :: jI x.Height :: AU x.Slots)⟩) g0_4 a0.frames, Mp (Value.int .i64) (fun _ : Unit => Value.agg ⟨[]⟩) g0_5 a0.fresh, Mp (Value.int .i64) (Value.int .i64) g0_6 a0.taken] := SL.init w FF hst
 refine BD func133 ntmps133 2 rfl rfl rfl fun _ F0 => ?_
 unfold Hy at H
 refine Ar F0 s0 rfl rfl rfl fun g8 w9 _ F s1 => gw 7 F rfl fun _ F => ?_
 obtain ⟨o0, H0, R0⟩ := Aa H
 clear H
 refine AG F s1 m0 3 rfl fun _ F => BA (fun a w_ => ∃ p0 : (List (Int × Int)), o0 = .inr (p0) ∧ Fr a 43 [] ∧ SL w FF w_ [A8 g0 154 [v0_0, v0_1, jI a0.e.Fn, v0_3, .map (some g0_4), .map (some g0_5), .map (some g0_6), jI a0.BU], Mp (Value.int .i64) (fun x : A4 => Value.agg ⟨(jI x.Locals :: jI x.Height :: AU x.Slots)⟩) g0_4 a0.frames, Mp (Value.int .i64) (fun _ : Unit => Value.agg ⟨[]⟩) g0_5 a0.fresh, Mp (Value.int .i64) (Value.int .i64) g0_6 p0]) ?_ ?_
 ·have H := H0
  refine gc 1 F rfl fun _ F => Cy (CM a0 a1) (fun s2 a w_ => Fr a 43 [(0, jP g0), (3, jP g8), (5, jI s2.2)] ∧ SL w FF w_ [A8 g8 79 [jI a1.At, jU (a1.Op.toNat : Int), jI a1.A, jI a1.B], A8 g0 154 [v0_0, v0_1, jI a0.e.Fn, v0_3, .map (some g0_4), .map (some g0_5), .map (some g0_6), jI a0.BU], Mp (Value.int .i64) (fun x : A4 => Value.agg ⟨(jI x.Locals :: jI x.Height :: AU x.Slots)⟩) g0_4 a0.frames, Mp (Value.int .i64) (fun _ : Unit => Value.agg ⟨[]⟩) g0_5 a0.fresh, Mp (Value.int .i64) (Value.int .i64) g0_6 s2.1]) H ?_ ?_
  ·exact ⟨F.sb, s1⟩
  intro s2 _ w0 h0 o1 H hr
  obtain ⟨F, s3⟩ := h0
  replace H : CM a0 a1 s2 = some o1 := H
  unfold CM at H
  obtain ⟨x0, h1, H⟩ := Aa H
  refine gc 2 F rfl fun _ F => HA Bq s3 F (QR.ev 2 rfl <| QR.ld m0 rfl <| QR.ev 1 rfl <| QR.ld m0 rfl <| QR.call (args := [.tmp 14]) A2k rfl (fun _ hC => Bf (J4 (a0 := a1.Op) h1) hC) <| QR.ev 2 rfl <| Bb) fun w1 _ s4 F => ge 1 F rfl fun _ F => AH F H 10 4 rfl rfl rfl (fun h2 H _ F => ?_) (fun h2 H _ F => ?_)
  ·refine AG F s4 m1 1 rfl fun _ F => gx F (U9 (k := s2.2) (z0 := (0 : Int)) s4 m4 underlying152 Hk AF5 rfl rfl) 11 rfl rfl fun _ F => BB 30 F H (fun h3 H F => ?_) (fun h3 H F => ?_)
   ·refine gw 2 F rfl fun _ F => AK F rfl rfl <| AG F s4 m0 4 rfl fun _ F => AH F H 13 2 rfl rfl rfl (fun h4 H _ F => ?_) (fun h4 H _ F => ?_)
    ·cases H
     obtain rfl := hr _ rfl
     replace H := R0
     try dsimp only at H
     cases H
     exact rt F ⟨v0_0, v0_1, v0_3, rfl, BS.refl, BS.refl, BS.refl, s4.drop⟩
    refine Cq Bq s4.f4.drop ?_
    refine hq [0, 1, 2, 3, 4, 5, 6] F s4.drew.f4.drop (QI.ev 3 rfl <| QI.ld m1 rfl <| QI.ev 2 rfl <| QI.ld m0 rfl <| QI.nil) (by kernel_rfl) fun _ F => ?_
    refine ho 7 rfl (by kernel_rfl) ?_
    refine Js (k := s2.2) (u := a1.At) F s4.drew.f4 underlying152 Hk rfl rfl rfl fun w2 _ F s5 => gw 1 F rfl fun _ F => ⟨s5.drop, ?_⟩
    refine CP (by kernel_rfl) ?_
    cases H
    exact ge 7 F rfl fun _ F => ⟨_, rfl, F.sb, s5.f4.f4.f4.f4⟩
   refine gw 10 F rfl fun _ F => Cq Bq s4.f4.drop ?_
   refine hq [0, 1, 2, 3, 4, 5, 6] F s4.drew.f4.drop (QI.ev 3 rfl <| QI.ld m1 rfl <| QI.ev 2 rfl <| QI.ld m0 rfl <| QI.nil) (by kernel_rfl) fun _ F => ?_
   refine ho 7 rfl (by kernel_rfl) ?_
   refine Js (k := s2.2) (u := a1.At) F s4.drew.f4 underlying152 Hk rfl rfl rfl fun w3 _ F s6 => gw 1 F rfl fun _ F => ⟨s6.drop, ?_⟩
   refine CP (by kernel_rfl) ?_
   cases H
   exact ge 7 F rfl fun _ F => ⟨_, rfl, F.sb, s6.f4.f4.f4.f4⟩
  cases H
  obtain rfl := hr _ rfl
  exact ⟨_, rfl, F.sb, s4.drop⟩
 intro _ w4 hJ
 obtain ⟨p0, rfl, F, s7⟩ := hJ
 have H := R0
 clear R0 H0
 try dsimp only at H
 cases H
 exact ge 7 F rfl fun _ F => rt F ⟨v0_0, v0_1, v0_3, rfl, BS.refl, BS.refl, BS.refl, s7⟩
theorem Mj {w : World} {FF : List Nat} {g1 : Nat} {v1_0 v1_1 : Value} {a0 : UInt8} {a1 : AA} {r : Bool} (hst : B1 [A8 g1 110 [v1_0, v1_1, jI a1.Fn]] w FF) (hr1_0 : Rd AB w FF v1_0 a1.Classes) (hr1_1 : Rd B8 w FF v1_1 a1.AQ) (H : FT a0 a1 = some r) :
    Calls prog 182 #[jU (a0.toNat : Int), jP g1] w (B9 fun u_ w_ => u_ = .bool r ∧ SL w FF w_ [A8 g1 110 [v1_0, v1_1, jI a1.Fn]]) := by
 have s0 : SL w FF w [A8 g1 110 [v1_0, v1_1, jI a1.Fn]] := SL.init w FF hst
 refine BD func182 ntmps182 8 rfl rfl rfl fun _ F => ?_
 unfold FT at H
 obtain ⟨x0, h0, H⟩ := Aa H
 refine AG F s0 m0 1 rfl fun _ F => B5 F s0 (Ho (hr1_0.AN s0) h0) 1 rfl rfl rfl rfl fun w0 _ F s1 => BB 8 F H (fun h1 H F => ?_) (fun h1 H F => ?_)
 ·refine gw 4 F rfl fun _ F => BB 12 F H (fun h2 H F => ?_) (fun h2 H F => ?_)
  ·cases H
   exact gw 7 F rfl fun _ F => rt F ⟨rfl, s1⟩
  cases H
  exact gw 7 F rfl fun _ F => rt F ⟨rfl, s1⟩
 cases H
 exact gw 11 F rfl fun _ F => rt F ⟨rfl, s1⟩
theorem Rn {w : World} {v0_0 v0_1 : Value} {a0 : AA} {r : Bool} (hr0_0 : Rd AB w [] v0_0 a0.Classes) (hr0_1 : Rd B8 w [] v0_1 a0.AQ) (H : IH a0 = some r) :
    Calls prog 159 #[.agg ⟨[v0_0, v0_1, jI a0.Fn]⟩] w (B9 fun u_ w_ => u_ = .bool r ∧ SL w [] w_ []) := by
 have s0 : SL w [] w [] := SL.Bt w
 refine BD func159 ntmps159 2 rfl rfl rfl fun _ F0 => ?_
 unfold IH at H
 refine Ar F0 s0 rfl rfl rfl fun g8 w9 _ F s1 => ?_
 obtain ⟨x0, h0, H⟩ := Aa H
 refine gw 6 F rfl fun _ F => AG F s1 m0 0 rfl fun _ F => B5 F s1 (Rh (hr0_0.AN s1) h0) 13 rfl rfl rfl rfl fun w0 _ F s2 => BB 18 F H (fun h1 H F => ?_) (fun h1 H F => ?_)
 ·cases H
  exact gw 28 F rfl fun _ F => rt F ⟨rfl, s2.drop⟩
 refine gw 1 F rfl fun _ F => AK F rfl rfl <| AG F s2 m0 0 rfl fun _ F => AK F rfl rfl <| gx F (Ah rfl underlying108 (fR hr0_1 s2)) 3 rfl rfl fun _ F => BB 24 F H (fun h2 H F => ?_) (fun h2 H F => ?_)
 ·cases H
  exact gw 22 F rfl fun _ F => rt F ⟨rfl, s2.drop⟩
 refine gw 1 F rfl fun _ F => AK F rfl rfl <| AG F s2 m0 3 rfl fun _ F => BB 29 F H (fun h3 H F => ?_) (fun h3 H F => ?_)
 ·cases H
  exact gw 17 F rfl fun _ F => rt F ⟨rfl, s2.drop⟩
 refine gw 1 F rfl fun _ F => AK F rfl rfl <| AG F s2 m0 1 rfl fun _ F => AK F rfl rfl <| AG F s2 m0 0 rfl fun _ F => AK F rfl rfl <| gx F (Ah rfl underlying108 (fR hr0_1 s2)) 4 rfl rfl fun _ F => AH F H 7 4 rfl rfl rfl (fun h4 H _ F => ?_) (fun h4 H _ F => ?_)
 ·cases H
  exact rt F ⟨rfl, s2.drop⟩
 refine gx F (Gc (cs := [.tmp 1]) (vs := [jP g8]) rfl) 7 rfl rfl fun _ F => AG F s2 m0 0 rfl fun _ F => ?_
 obtain ⟨o0, H0, R0⟩ := Aa H
 clear H
 refine gx F (Ah rfl underlying108 (fR hr0_1 s2)) 3 rfl rfl fun _ F => BA (fun a w_ => ∃ p0 : Unit, o0 = .inr (p0) ∧ Fr a 74 [] ∧ SL w [] w_ []) ?_ ?_
 ·have H := H0
  refine gc 1 F rfl fun _ F => Cy (Gi a0) (fun s3 a w_ => Fr a 74 [(5, clo 182 [jP g8]), (39, v0_1), (40, jI (a0.AQ.length : Int)), (41, jI s3)] ∧ SL w [] w_ [A8 g8 110 [v0_0, v0_1, jI a0.Fn]]) H ?_ ?_
  ·exact ⟨F.sb, s2⟩
  intro s3 _ w1 h5 o1 H hr
  obtain ⟨F, s4⟩ := h5
  replace H : Gi a0 s3 = some o1 := H
  unfold Gi at H
  refine gc 6 F rfl fun _ F => AH F H 6 4 rfl rfl rfl (fun h6 H _ F => ?_) (fun h6 H _ F => ?_)
  ·obtain ⟨x1, h7, H⟩ := Aa H
   obtain ⟨a2, c0, G0, h8, h9, ha, hb⟩ := Rd.idx hr0_1 E2 rfl h7
   obtain ⟨v0, rfl, hc⟩ := (Ga ha hb)
   replace h9 := h9 _ _ s4
   refine gi F h8 0 rfl fun _ F => gx F (Av J1 rfl h9 rfl) 0 rfl rfl fun _ F => Af F s4 KT rfl rfl fun g0 w2 _ F s5 => Ai F s5 rfl rfl OG (Ab (Aq (fR hc s5)) (Ab rfl Ap)) (Ac rfl) fun w3 _ F s6 => ?_
   obtain ⟨o2, H1, R1⟩ := Aa H
   clear H
   refine gw 3 F rfl fun _ F => BA (fun a w_ => ∃ p1 : Bool × Bool, o2 = .inr (p1) ∧ Fr a 74 [(5, clo 182 [jP g8]), (7, jP g0), (39, v0_1), (40, jI (a0.AQ.length : Int)), (41, jI s3), (50, .pointer (some ⟨g0, 1, none⟩)), (51, jU (x1.Result.toNat : Int)), (52, .bool ((x1.Result.toNat : Int) != 0)), (53, .bool p1.1), (59, .bool p1.2)] ∧ SL w [] w_ [A8 g8 110 [v0_0, v0_1, jI a0.Fn], A8 g0 50 [v0, jU (x1.Result.toNat : Int)]]) ?_ ?_
   ·have H := H1
    refine gc 3 F rfl fun _ F => AG F s6 m0 0 rfl fun _ F => gx F (Ah rfl underlying47 (fR hc s6)) 2 rfl rfl fun _ F => BB 49 F H (fun hd H F => ?_) (fun hd H F => ?_)
    ·cases H
     replace H := R1
     try dsimp only at H
     cases H
     obtain rfl := hr _ rfl
     replace H := R0
     try dsimp only at H
     cases H
     exact gw 28 F rfl fun _ F => rt F ⟨rfl, s6.drop.drop⟩
    refine gw 1 F rfl fun _ F => AK F rfl rfl <| AG F s6 m0 2 rfl fun _ F => BB 53 F H (fun he H F => ?_) (fun he H F => ?_)
    ·refine gw 2 F rfl fun _ F => AK F rfl rfl <| AG F s6 m0 0 rfl fun _ F => ?_
     obtain ⟨x2, hf, H⟩ := Aa H
     refine AK F rfl rfl ?_
     obtain ⟨G1, hg, hh, hi, hj⟩ := SL.open_ (ps := [A8 g8 110 [v0_0, v0_1, jI a0.Fn]]) (rest := [A8 g0 50 [v0, jU (x1.Result.toNat : Int)]]) s6.f1
     refine Hb (args := [.tmp 56]) F X0 rfl rfl (Mj (a0 := x1.Result) (a1 := (⟨a0.Classes, a0.AQ, a0.Fn⟩ : AA)) hg (hr0_0.pass s6.f1 hh) (hr0_1.pass s6.f1 hh) hf) rfl fun v1 w4 _ hk F => ?_
     obtain ⟨rfl, hl⟩ := hk
     have s7 := hj _ _ hl
     refine gw 5 F rfl fun _ F => AH F H 14 1 rfl rfl rfl (fun hm H _ F => ?_) (fun hm H _ F => ?_)
     ·cases H
      replace H := R1
      try dsimp only at H
      cases H
      obtain rfl := hr _ rfl
      replace H := R0
      try dsimp only at H
      cases H
      exact rt F ⟨rfl, s7.drop.drop⟩
     cases H
     exact ⟨_, rfl, F.sb, s7⟩
    cases H
    exact gw 11 F rfl fun _ F => ⟨_, rfl, F.sb, s6.f1⟩
   intro _ w5 hJ
   obtain ⟨p1, rfl, F, s8⟩ := hJ
   have H := R1
   clear R1 H1
   try dsimp only at H
   refine ge 4 F rfl fun _ F => AG F s8 m1 0 rfl fun _ F => ?_
   obtain ⟨o3, H2, R2⟩ := Aa H
   clear H
   refine gx F (Ah rfl underlying47 (fR hc s8)) 3 rfl rfl fun _ F => BA (fun a w_ => ∃ p2 : Unit, o3 = .inr (p2) ∧ Fr a 74 [(5, clo 182 [jP g8]), (39, v0_1), (40, jI (a0.AQ.length : Int)), (41, jI s3), (50, .pointer (some ⟨g0, 1, none⟩)), (51, jU (x1.Result.toNat : Int)), (52, .bool ((x1.Result.toNat : Int) != 0)), (53, .bool p1.1), (59, .bool p1.2)] ∧ SL w [] w_ [A8 g8 110 [v0_0, v0_1, jI a0.Fn], A8 g0 50 [v0, jU (x1.Result.toNat : Int)]]) ?_ ?_
   ·have H := H2
    refine gc 1 F rfl fun _ F => Cy (Gg a0 x1) (fun s9 a w_ => Fr a 74 [(5, clo 182 [jP g8]), (39, v0_1), (40, jI (a0.AQ.length : Int)), (41, jI s3), (50, .pointer (some ⟨g0, 1, none⟩)), (51, jU (x1.Result.toNat : Int)), (52, .bool ((x1.Result.toNat : Int) != 0)), (53, .bool p1.1), (59, .bool p1.2), (62, v0), (63, jI (x1.Bv.length : Int)), (64, jI s9)] ∧ SL w [] w_ [A8 g8 110 [v0_0, v0_1, jI a0.Fn], A8 g0 50 [v0, jU (x1.Result.toNat : Int)]]) H ?_ ?_
    ·exact ⟨F.sb, s8⟩
    intro s9 _ w6 hn o4 H hr
    obtain ⟨F, sa⟩ := hn
    replace H : Gg a0 x1 s9 = some o4 := H
    unfold Gg at H
    refine gc 6 F rfl fun _ F => AH F H 6 4 rfl rfl rfl (fun ho H _ F => ?_) (fun ho H _ F => ?_)
    ·obtain ⟨x3, hp, H⟩ := Aa H
     obtain ⟨a3, hq, hs⟩ := HM Flat.u8 (Eb hc sa) Br rfl hp
     refine gi F hq 0 rfl fun _ F => ?_
     obtain ⟨x4, ht, H⟩ := Aa H
     obtain ⟨G2, hu, hv, hw, hx⟩ := SL.open_ (ps := [A8 g8 110 [v0_0, v0_1, jI a0.Fn]]) (rest := [A8 g0 50 [v0, jU (x1.Result.toNat : Int)]]) sa
     refine gx F (An BF rfl (Bn.at_ hs (o := 0) rfl)) 7 rfl rfl fun _ F => ?_
     refine Hb (args := [.tmp 69]) F X0 rfl rfl (Mj (a0 := x3) (a1 := (⟨a0.Classes, a0.AQ, a0.Fn⟩ : AA)) hu (hr0_0.pass sa hv) (hr0_1.pass sa hv) ht) rfl fun v2 w7 _ hy F => ?_
     obtain ⟨rfl, hz⟩ := hy
     have sc := hx _ _ hz
     refine gw 3 F rfl fun _ F => AH F H 17 7 rfl rfl rfl (fun h10 H _ F => ?_) (fun h10 H _ F => ?_)
     ·cases H
      obtain rfl := hr _ rfl
      replace H := R2
      try dsimp only at H
      cases H
      obtain rfl := hr _ rfl
      replace H := R0
      try dsimp only at H
      cases H
      exact rt F ⟨rfl, sc.drop.drop⟩
     cases H
     exact ⟨_, rfl, F.sb, sc⟩
    cases H
    obtain rfl := hr _ rfl
    exact ⟨_, rfl, F.sb, sa⟩
   intro _ w8 hJ
   obtain ⟨p2, rfl, F, sd⟩ := hJ
   have H := R2
   clear R2 H2
   try dsimp only at H
   cases H
   exact ge 6 F rfl fun _ F => ⟨_, rfl, F.sb, sd.f1.drop⟩
  cases H
  obtain rfl := hr _ rfl
  exact ⟨_, rfl, F.sb, s4.drop⟩
 intro _ wa hJ
 obtain ⟨p0, rfl, F, se⟩ := hJ
 have H := R0
 clear R0 H0
 try dsimp only at H
 cases H
 exact ge 7 F rfl fun _ F => rt F ⟨rfl, se⟩
theorem Jr {w : World} {a0 : A4} {r : Bool} (H : Hp a0 = some r) :
    Calls prog 183 #[.agg ⟨(jI a0.Locals :: jI a0.Height :: AU a0.Slots)⟩] w (B9 fun u_ w_ => u_ = .bool r ∧ SL w [] w_ []) := by
 have s0 : SL w [] w [] := SL.Bt w
 refine BD func183 ntmps183 2 rfl rfl rfl fun _ F0 => ?_
 unfold Hp at H
 refine Ar F0 s0 rfl rfl rfl fun g8 w9 _ F s1 => gw 6 F rfl fun _ F => AG F s1 m0 2 rfl fun _ F => BB 6 F H (fun h0 H F => ?_) (fun h0 H F => ?_)
 ·refine gw 1 F rfl fun _ F => AK F rfl rfl <| AG F s1 m0 3 rfl fun _ F => BB 11 F H (fun h1 H F => ?_) (fun h1 H F => ?_)
  ·refine gw 1 F rfl fun _ F => AK F rfl rfl <| AG F s1 m0 3 rfl fun _ F => BB 16 F H (fun h2 H F => ?_) (fun h2 H F => ?_)
   ·refine gw 1 F rfl fun _ F => AK F rfl rfl <| AG F s1 m0 1 rfl fun _ F => AK F rfl rfl ?_
    cases H
    exact AG F s1 m0 7 rfl fun _ F => rt F ⟨rfl, s1.drop⟩
   cases H
   exact gw 11 F rfl fun _ F => rt F ⟨rfl, s1.drop⟩
  cases H
  exact gw 16 F rfl fun _ F => rt F ⟨rfl, s1.drop⟩
 cases H
 exact gw 21 F rfl fun _ F => rt F ⟨rfl, s1.drop⟩
theorem Mr {w : World} {a0 : A4} {r : A4} (H : IA a0 = some r) :
    Calls prog 184 #[.agg ⟨(jI a0.Locals :: jI a0.Height :: AU a0.Slots)⟩] w (B9 fun u_ w_ => u_ = .agg ⟨(jI r.Locals :: jI r.Height :: AU r.Slots)⟩ ∧ SL w [] w_ []) := by
 have s0 : SL w [] w [] := SL.Bt w
 refine BD func184 ntmps184 2 rfl rfl rfl fun _ F0 => ?_
 unfold IA at H
 refine Ar F0 s0 rfl rfl rfl fun g0 w0 _ F s1 => Af F s1 AO rfl rfl fun g1 w1 _ F s2 => gw 5 F rfl fun _ F => AG F s2 m1 1 rfl fun _ F => AG F s2 m1 0 rfl fun _ F => ?_
 refine gx F (Al (vs := [jI a0.Locals, jI a0.Height]) AO Ch rfl (cs := (jI a0.Locals :: jI a0.Height :: AU (Vector.replicate 24 (0 : UInt8)))) (Do rfl rfl (by simp) <| Do rfl rfl (by simp) <| BG)) 0 rfl rfl fun _ F => ?_
 refine Af F s2 AO rfl rfl fun g2 w2 _ F s3 => ?_
 refine AP (ds := (jI a0.Locals :: jI a0.Height :: AU (Vector.replicate 24 (0 : UInt8)))) F s3 rfl rfl (by simpa using AX) (Ab rfl (Ab rfl (Bp _))) (by simp) fun w3 _ F s4 => ?_
 obtain ⟨x0, h0, H⟩ := Aa H
 refine gw 3 F rfl fun _ F => Cq Bq s4.drop ?_
 refine hq [0, 1, 2, 3, 4, 5, 7, 8] F s4.drew.drop (QI.ev 2 rfl <| QI.ld m1 rfl <| QI.ev 1 rfl <| QI.ld m1 rfl <| QI.ev 2 rfl <| QI.op rfl (fun _ hC => Aau Db rfl) rfl <| QI.nil) (by kernel_rfl) fun _ F => ?_
 refine ho 6 rfl (by kernel_rfl) ?_
 refine gx F (Are Db (WY h0).1 (WY h0).2 rfl rfl) 1 rfl rfl fun _ F => ⟨s4.drew.drop, ?_⟩
 refine ho 9 rfl (by kernel_rfl) ?_
 refine Z5 (q := (wr (a0.Locals + a0.Height)).toNat) (pre := [jI a0.Locals, jI a0.Height]) (pre2 := [jI a0.Locals, jI a0.Height]) F s4.drew m1 rfl rfl (Ayx h0) Br rfl rfl rfl (cs' := (jI a0.Locals :: jI a0.Height :: AU (P5 (Vector.replicate 24 (0 : UInt8)) a0.Slots ((wr (a0.Locals + a0.Height)).toNat)))) (by simp only [List.cons_append, List.nil_append]) fun w4 _ F s5 => ?_
 refine gw 1 F rfl fun _ F => ⟨s5.drop, ?_⟩
 refine CP (by kernel_rfl) ?_
 refine ge 3 F rfl fun _ F => D3 F s5 m0 0 rfl fun _ F => ?_
 refine AP (ds := (jI a0.Locals :: jI a0.Height :: AU (P5 (Vector.replicate 24 (0 : UInt8)) a0.Slots ((wr (a0.Locals + a0.Height)).toNat)))) F s5.f1 rfl rfl (by simpa using AX) (Ab rfl (Ab rfl (Bp _))) (by simp) fun w5 _ F s6 => ?_
 cases H
 refine gw 3 F rfl fun _ F => ?_
 refine Ak (rs := [.cell 2 118]) (vs := [.agg ⟨(jI a0.Locals :: jI a0.Height :: AU (P5 (Vector.replicate 24 (0 : UInt8)) a0.Slots ((wr (a0.Locals + a0.Height)).toNat)))⟩]) F (by rfl) ⟨_, _, rfl, Am s6 m0 rfl AZ (by simp), rfl⟩ ⟨_, rfl, ⟨rfl, s6.drop.drop.drop⟩⟩
theorem Nz {w : World} {v0 : Value} {a0 : List A6} {a1 : A4} {r : Int} (hr0 : Rd AB w [] v0 a0) (H : HQ a0 a1 = some r) :
    Calls prog 160 #[v0, .agg ⟨(jI a1.Locals :: jI a1.Height :: AU a1.Slots)⟩] w (B9 fun u_ w_ => u_ = jI r ∧ SL w [] w_ []) := by
 have s0 : SL w [] w [] := SL.Bt w
 refine BD func160 ntmps160 2 rfl rfl rfl fun _ F0 => ?_
 unfold HQ at H
 refine Ar F0 s0 rfl rfl rfl fun g8 w9 _ F s1 => ?_
 obtain ⟨x0, h0, H⟩ := Aa H
 refine gw 5 F rfl fun _ F => Be (!x0) (fun h1 => ?_) (fun h1 => ?_)
 ·replace H := Mt h1 H
  refine HA Bq s1 F (QR.qo (fun _ hC => Av AZ rfl (hC.Dk m0 (o := 0) (ds := (jI a1.Locals :: jI a1.Height :: AU a1.Slots)) (Ib (pre := []) rfl rfl)) (by simp)) rfl <| QR.call (args := [.tmp 7]) X9 rfl (fun _ hC => Bf (Jr (a0 := (⟨a1.Locals, a1.Height, a1.Slots⟩ : A4)) h0) hC) <| QR.ev 2 rfl <| QR.qs rfl rfl (Aj rfl h1) Ad rfl rfl <| QR.qs rfl rfl (Aj rfl h1) Ad rfl rfl <| QR.qs rfl rfl (Aj rfl h1) Ad rfl rfl <| QR.qs rfl rfl (Aj rfl h1) Ad rfl rfl <| QR.qo (fun _ hC => Bg (KC rfl h1) rfl) rfl <| Bb) fun w0 _ s2 F => ?_
  cases H
  exact ge 9 F rfl fun _ F => rt F ⟨rfl, s2.drop⟩
 replace H := Ms h1 H
 obtain ⟨x1, h2, H⟩ := Aa H
 refine HA Bq s1 F (QR.qo (fun _ hC => Av AZ rfl (hC.Dk m0 (o := 0) (ds := (jI a1.Locals :: jI a1.Height :: AU a1.Slots)) (Ib (pre := []) rfl rfl)) (by simp)) rfl <| QR.call (args := [.tmp 7]) X9 rfl (fun _ hC => Bf (Jr (a0 := (⟨a1.Locals, a1.Height, a1.Slots⟩ : A4)) h0) hC) <| QR.ev 2 rfl <| QR.qg (fun _ hC => Av AZ rfl (hC.Dk m0 (o := 0) (ds := (jI a1.Locals :: jI a1.Height :: AU a1.Slots)) (Ib (pre := []) rfl rfl)) (by simp)) rfl rfl (Aj rfl h1) rfl rfl <| QR.ZF rfl (Aj rfl h1) (args := [.tmp 11]) Aez rfl (fun _ hC => Bf (Mr (a0 := (⟨a1.Locals, a1.Height, a1.Slots⟩ : A4)) h2) hC) <| QR.qg (fun _ hC => Av AZ rfl (hC.Dk m0 (o := 0) (ds := (jI a1.Locals :: jI a1.Height :: AU a1.Slots)) (Ib (pre := []) rfl rfl)) (by simp)) rfl rfl (Aj rfl h1) rfl rfl <| QR.qg (fun _ hC => SY (xs := (jI x1.Locals :: jI x1.Height :: AU x1.Slots)) (ys := (jI a1.Locals :: jI a1.Height :: AU a1.Slots)) N7 (by decide) rfl rfl (SI N7 Uv (Bi rfl (Bj BE rfl) (Bj BE rfl) (EqAt.up (j := 2) (N8 underlying3) (by decide)) (Bi rfl (Bj BE rfl) (Bj BE rfl) (EqAt.up (j := 2) (N8 underlying3) (by decide)) (Bi rfl (Qk Lh (OJ (pre := [jI x1.Locals, jI x1.Height]) rfl rfl) (by simp)) (Qk Lh (OJ (pre := [jI a1.Locals, jI a1.Height]) rfl rfl) (by simp)) (EqAt.up (j := 2) (Uf Db underlying48 Vm) (by decide)) SR))))) rfl rfl (Aj rfl h1) rfl rfl <| QR.qo (fun _ hC => Bk (KC rfl h1) rfl) rfl <| Bb) fun w1 _ s3 F => ?_
 refine ge 1 F rfl fun _ F => AH F H 7 6 rfl rfl rfl (fun h3 H _ F => ?_) (fun h3 H _ F => ?_)
 ·cases H
  exact rt F ⟨rfl, s3.drop⟩
 obtain ⟨o0, H0, R0⟩ := Aa H
 clear H
 refine gx F (Akg (pre := [jI a1.Locals, jI a1.Height]) s3 m0 rfl Lh rfl) 3 rfl rfl fun _ F => BA (fun a w_ => ∃ p0 : Unit, o0 = .inr (p0) ∧ Fr a 26 [] ∧ SL w [] w_ []) ?_ ?_
 ·have H := H0
  refine gc 1 F rfl fun _ F => Cy (GZ a0 a1) (fun s4 a w_ => Fr a 26 [(0, v0), (17, .agg ⟨AU a1.Slots⟩), (18, jI s4)] ∧ SL w [] w_ []) H ?_ ?_
  ·exact ⟨F.sb, s3.drop⟩
  intro s4 _ w2 h4 o1 H hr
  obtain ⟨F, s5⟩ := h4
  replace H : GZ a0 a1 s4 = some o1 := H
  unfold GZ at H
  refine gc 6 F rfl fun _ F => AH F H 6 4 rfl rfl rfl (fun h5 H _ F => ?_) (fun h5 H _ F => ?_)
  ·obtain ⟨x2, h6, H⟩ := Aa H
   obtain ⟨x3, h7, H⟩ := Aa H
   refine gx F (ZK Db BF rfl rfl h6) 7 rfl rfl fun _ F => B5 F s5 (Ho (hr0.AN s5) h7) 3 rfl rfl rfl rfl fun w3 _ F s6 => AH F H 12 7 rfl rfl rfl (fun h8 H _ F => ?_) (fun h8 H _ F => ?_)
   ·cases H
    obtain rfl := hr _ rfl
    replace H := R0
    try dsimp only at H
    cases H
    exact rt F ⟨rfl, s6⟩
   cases H
   exact ⟨_, rfl, F.sb, s6⟩
  cases H
  obtain rfl := hr _ rfl
  exact ⟨_, rfl, F.sb, s5⟩
 intro _ w4 hJ
 obtain ⟨p0, rfl, F, s7⟩ := hJ
 have H := R0
 clear R0 H0
 try dsimp only at H
 cases H
 exact ge 7 F rfl fun _ F => rt F ⟨rfl, s7⟩
theorem Ko {w : World} {a0 : UInt8} {r : A5} (H : IB a0 = some r) :
    Calls prog 200 #[jU (a0.toNat : Int)] w (B9 fun u_ w_ => u_ = .agg ⟨[jI r.kind, jU (r.t.toNat : Int)]⟩ ∧ SL w [] w_ []) := by
 have s0 : SL w [] w [] := SL.Bt w
 refine BD func200 ntmps200 2 rfl rfl rfl fun _ F0 => ?_
 unfold IB at H
 refine Af F0 s0 Eo rfl rfl fun g7 w8 q9 F s1 => gw 5 F rfl fun _ F => gx F (Al (vs := [jI 4, jU (a0.toNat : Int)]) Eo Io rfl (cs := [jI 4, jU (a0.toNat : Int)]) (rfl)) 0 rfl rfl fun _ F => Ai F s1 rfl rfl Qy (Ab rfl (Ab rfl Ap)) (Ac rfl) fun w0 _ F s2 => ?_
 cases H
 refine gw 3 F rfl fun _ F => ?_
 refine Ak (rs := [.cell 2 253]) (vs := [.agg ⟨[jI 4, jU (a0.toNat : Int)]⟩]) F (by rfl) ⟨_, _, rfl, Am s2 m0 rfl VS rfl, rfl⟩ ⟨_, rfl, ⟨rfl, s2.drop⟩⟩
theorem BW {w : World} {v0 : Value} (hc0 : v0.cells = #[v0]) :
    Calls prog 201 #[v0] w (B9 fun u_ w_ => ∃ g0 : Nat, u_ = clo 214 [jP g0] ∧ SL w [] w_ [A8 g0 47 [v0]]) := by
  have s0 : SL w [] w [] := SL.Bt w
  refine Kw func201 rfl ntmps201 (Nat.le_of_ble_eq_true rfl) (args := [v0]) fun q0 F0 => ?_
  refine wp_seq ?_
  refine GL ?_
  refine MP F0 s0 rfl hc0 rfl fun g0 w1 q1 F1 s1 => ?_
  refine HG F1 (PR.op (Iy rfl) <| PR.nil) fun q2 F2 => ?_
  refine Gq ?_
  refine Gn ?_
  refine wp_seq ?_
  refine GL ?_
  refine HG F2 (PR.op (Gc (cs := [.tmp 1]) (vs := [jP g0]) rfl) <| PR.op (Iy rfl) <| PR.nil) fun q3 F3 => ?_
  refine Gq ?_
  refine Gn ?_
  refine wp_ret ?_
  refine K7 (rs := [.tmp 2]) (vs := [clo 214 [jP g0]]) F3 (by rfl) ⟨_, _, rfl, RV.tmp rfl, rfl⟩ ⟨_, rfl, ⟨g0, rfl, s1⟩⟩
theorem Ce {w : World} {v0 v1 : Value} (hc0 : v0.cells = #[v0]) (hc1 : v1.cells = #[v1]) :
    Calls prog 202 #[v0, v1] w (B9 fun u_ w_ => ∃ g0 g1 : Nat, u_ = clo 215 [jP g0, jP g1] ∧ SL w [] w_ [A8 g1 142 [v1], A8 g0 224 [v0]]) := by
  have s0 : SL w [] w [] := SL.Bt w
  refine Kw func202 rfl ntmps202 (Nat.le_of_ble_eq_true rfl) (args := [v0, v1]) fun q0 F0 => ?_
  refine wp_seq ?_
  refine GL ?_
  refine MP F0 s0 rfl hc0 rfl fun g0 w1 q1 F1 s1 => ?_
  refine MP F1 s1 rfl hc1 rfl fun g1 w2 q2 F2 s2 => ?_
  refine HG F2 (PR.op (Iy rfl) <| PR.nil) fun q3 F3 => ?_
  refine Gq ?_
  refine Gn ?_
  refine wp_seq ?_
  refine GL ?_
  refine HG F3 (PR.op (Gc (cs := [.tmp 2, .tmp 3]) (vs := [jP g0, jP g1]) rfl) <| PR.op (Iy rfl) <| PR.nil) fun q4 F4 => ?_
  refine Gq ?_
  refine Gn ?_
  refine wp_ret ?_
  refine K7 (rs := [.tmp 4]) (vs := [clo 215 [jP g0, jP g1]]) F4 (by rfl) ⟨_, _, rfl, RV.tmp rfl, rfl⟩ ⟨_, rfl, ⟨g0, g1, rfl, s2⟩⟩
theorem N3 {w : World} {v0 v1 : Value} (hc0 : v0.cells = #[v0]) (hc1 : v1.cells = #[v1]) :
    Calls prog 208 #[v0, v1] w (B9 fun u_ w_ => ∃ g0 g1 : Nat, u_ = clo 216 [jP g1, jP g0] ∧ SL w [] w_ [A8 g1 4 [v1], A8 g0 224 [v0]]) := by
  have s0 : SL w [] w [] := SL.Bt w
  refine Kw func208 rfl ntmps208 (Nat.le_of_ble_eq_true rfl) (args := [v0, v1]) fun q0 F0 => ?_
  refine wp_seq ?_
  refine GL ?_
  refine MP F0 s0 rfl hc0 rfl fun g0 w1 q1 F1 s1 => ?_
  refine MP F1 s1 rfl hc1 rfl fun g1 w2 q2 F2 s2 => ?_
  refine HG F2 (PR.op (Iy rfl) <| PR.nil) fun q3 F3 => ?_
  refine Gq ?_
  refine Gn ?_
  refine wp_seq ?_
  refine GL ?_
  refine HG F3 (PR.op (Gc (cs := [.tmp 3, .tmp 2]) (vs := [jP g1, jP g0]) rfl) <| PR.op (Iy rfl) <| PR.nil) fun q4 F4 => ?_
  refine Gq ?_
  refine Gn ?_
  refine wp_ret ?_
  refine K7 (rs := [.tmp 4]) (vs := [clo 216 [jP g1, jP g0]]) F4 (by rfl) ⟨_, _, rfl, RV.tmp rfl, rfl⟩ ⟨_, rfl, ⟨g0, g1, rfl, s2⟩⟩
theorem R9 {w : World} {v0 : Value} (hc0 : v0.cells = #[v0]) :
    Calls prog 209 #[v0] w (B9 fun u_ w_ => ∃ g0 : Nat, u_ = clo 218 [jP g0] ∧ SL w [] w_ [A8 g0 4 [v0]]) := by
  have s0 : SL w [] w [] := SL.Bt w
  refine Kw func209 rfl ntmps209 (Nat.le_of_ble_eq_true rfl) (args := [v0]) fun q0 F0 => ?_
  refine wp_seq ?_
  refine GL ?_
  refine MP F0 s0 rfl hc0 rfl fun g0 w1 q1 F1 s1 => ?_
  refine HG F1 (PR.op (Iy rfl) <| PR.nil) fun q2 F2 => ?_
  refine Gq ?_
  refine Gn ?_
  refine wp_seq ?_
  refine GL ?_
  refine HG F2 (PR.op (Gc (cs := [.tmp 1]) (vs := [jP g0]) rfl) <| PR.op (Iy rfl) <| PR.nil) fun q3 F3 => ?_
  refine Gq ?_
  refine Gn ?_
  refine wp_ret ?_
  refine K7 (rs := [.tmp 2]) (vs := [clo 218 [jP g0]]) F3 (by rfl) ⟨_, _, rfl, RV.tmp rfl, rfl⟩ ⟨_, rfl, ⟨g0, rfl, s1⟩⟩
set_option maxHeartbeats 4000000 in
theorem Xt {w : World} {r : (List (D6 A5))} (H : step_table = some r) :
    Calls prog 185 #[] w (B9 fun u_ w_ => ∃ vs : List Value, u_ = .agg ⟨vs⟩ ∧ vs.length = 34 ∧ SL w [] w_ [] ∧ ∀ (k : Nat) (t : D6 A5), r[k]? = some t → ∃ tv, vs[k]? = some tv ∧ SL w [] w_ [Qq Bm AD tv t]) := by
 have s0 : SL w [] w [] := SL.Bt w
 refine BD func185 ntmps185 2 rfl rfl rfl fun _ F0 => ?_
 unfold step_table at H
 refine Af F0 s0 UW rfl rfl fun g9 w0 _ F s1 => ?_
 have s2 : SL w [] _ [A8 g9 249 (List.replicate 34 .nilFunc)] := s1
 refine gw 1 F rfl fun _ F => ?_
 have F := F.sub (m' := [(0, jP g9)]) ⟨rfl, trivial⟩
 clear F
 obtain ⟨x0, h0, H⟩ := Aa H
 refine ge 3 F rfl fun _ F => B5 F s2 (Ko h0) 0 rfl rfl rfl rfl fun w1 _ F s3 => ?_
 obtain ⟨x1, h1, H⟩ := Aa H
 refine B5 F s3 (Ko h1) 0 rfl rfl rfl rfl fun w2 _ F s4 => ?_
 obtain ⟨x2, h2, H⟩ := Aa H
 refine B5 F s4 (Ko h2) 0 rfl rfl rfl rfl fun w3 _ F s5 => Af F s5 Eo rfl rfl fun g0 w4 _ F s6 => Af F s6 Eo rfl rfl fun g1 w5 _ F s7 => Af F s7 Eo rfl rfl fun g2 w6 _ F s8 => Ai F s8.f2 rfl rfl Qy (Ab rfl (Ab rfl Ap)) (Ac rfl) fun w7 _ F s9 => ?_
 replace s9 : SL w [] w7 [A8 g0 253 [jI x0.kind, jU (x0.t.toNat : Int)], A8 g2 253 [jI 0, jU 0], A8 g1 253 [jI 0, jU 0], A8 g9 249 (List.replicate 34 .nilFunc)] := s9
 refine Ai F s9.f2 rfl rfl Qy (Ab rfl (Ab rfl Ap)) (Ac rfl) fun w8 _ F sa => ?_
 replace sa : SL w [] w8 [A8 g1 253 [jI x1.kind, jU (x1.t.toNat : Int)], A8 g0 253 [jI x0.kind, jU (x0.t.toNat : Int)], A8 g2 253 [jI 0, jU 0], A8 g9 249 (List.replicate 34 .nilFunc)] := sa
 refine Ai F sa.f2 rfl rfl Qy (Ab rfl (Ab rfl Ap)) (Ac rfl) fun w9 _ F sc => ?_
 replace sc : SL w [] w9 [A8 g2 253 [jI x2.kind, jU (x2.t.toNat : Int)], A8 g1 253 [jI x1.kind, jU (x1.t.toNat : Int)], A8 g0 253 [jI x0.kind, jU (x0.t.toNat : Int)], A8 g9 249 (List.replicate 34 .nilFunc)] := sc
 refine gw 1 F rfl fun _ F => ?_
 have F := F.sub (m' := [(0, jP g9), (1, jP g0), (2, jP g1), (3, jP g2)]) ⟨rfl, rfl, rfl, rfl, trivial⟩
 clear F
 refine ge 3 F rfl fun _ F => AG F sc m2 0 rfl fun _ F => AG F sc m2 0 rfl fun _ F => ?_
 refine Ae (parts := [(0, .tmp 14), (1, .tmp 15)]) BZ ([(⟨x0.kind, x0.t⟩ : A5), (⟨x0.kind, x0.t⟩ : A5)] : List A5) F sc Cv rfl (by decide) rfl rfl rfl (by simp [Value.cells]) rfl rfl rfl fun v0 wa _ F sd => ?_
 refine gw 2 F rfl fun _ F => ?_
 have F := F.sub (m' := [(0, jP g9), (1, jP g0), (2, jP g1), (3, jP g2), (4, v0)]) ⟨rfl, rfl, rfl, rfl, rfl, trivial⟩
 clear F
 refine ge 3 F rfl fun _ F => As (args := [.const (.slice none 0 0)]) F CQ rfl (BW rfl) rfl fun v1 wb _ h3 F => ?_
 obtain ⟨g3, rfl, h4⟩ := h3
 have se := sd.add h4
 refine Af F se Zx rfl rfl fun g4 wc _ F sf => Ay F sf rfl rfl Adj rfl rfl rfl fun wd _ F sg => ?_
 replace sg : SL w [] wd [A8 g4 142 [clo 214 [jP g3]], A8 g3 47 [.slice none 0 0], Sl AD v0 ([(⟨x0.kind, x0.t⟩ : A5), (⟨x0.kind, x0.t⟩ : A5)] : List A5), A8 g2 253 [jI x2.kind, jU (x2.t.toNat : Int)], A8 g1 253 [jI x1.kind, jU (x1.t.toNat : Int)], A8 g0 253 [jI x0.kind, jU (x0.t.toNat : Int)], A8 g9 249 (List.replicate 34 .nilFunc)] := sg
 refine gw 1 F rfl fun _ F => ?_
 have F := F.sub (m' := [(0, jP g9), (1, jP g0), (2, jP g1), (3, jP g2), (4, v0), (5, jP g4)]) ⟨rfl, rfl, rfl, rfl, rfl, rfl, trivial⟩
 clear F
 refine ge 3 F rfl fun _ F => Af F sg UW rfl rfl fun g5 we _ F sh => ?_
 have si : SL w [] _ [A8 g5 249 (List.replicate 34 .nilFunc), A8 g4 142 [clo 214 [jP g3]], A8 g3 47 [.slice none 0 0], Sl AD v0 ([(⟨x0.kind, x0.t⟩ : A5), (⟨x0.kind, x0.t⟩ : A5)] : List A5), A8 g2 253 [jI x2.kind, jU (x2.t.toNat : Int)], A8 g1 253 [jI x1.kind, jU (x1.t.toNat : Int)], A8 g0 253 [jI x0.kind, jU (x0.t.toNat : Int)], A8 g9 249 (List.replicate 34 .nilFunc)] := sh
 obtain ⟨v2, sj⟩ := SL.Ar4 (n := Bm) (T := AD) (K := 34) si
 refine gw 1 F rfl fun _ F => ?_
 have F := F.sub (m' := [(0, jP g9), (1, jP g0), (2, jP g1), (3, jP g2), (4, v0), (5, jP g4), (6, jP g5)]) ⟨rfl, rfl, rfl, rfl, rfl, rfl, rfl, trivial⟩
 clear F
 refine ge 4 F rfl fun _ F => ?_
 refine UJ (parts := [(0, .const (jU 0)), (1, .const (jU 19)), (2, .const (jU 32))]) (vs := [jU 0, jU 19, jU 32]) F sj DX rfl (by decide) rfl rfl rfl (Rc (I9 rfl (I9 rfl (I9 rfl Vd)))) rfl fun g6 wf _ F sk => ?_
 refine gx F (Ah rfl underlying42 ⟨_, _, rfl⟩) 2 rfl rfl fun _ F => ?_
 have F := F.sub (m' := [(0, jP g9), (1, jP g0), (2, jP g1), (3, jP g2), (4, v0), (5, jP g4), (6, jP g5), (18, .slice (some ⟨g6, 0, none⟩) 3 3), (19, jI ((3 : Nat) : Int)), (20, jI 0)]) ⟨rfl, rfl, rfl, rfl, rfl, rfl, rfl, rfl, rfl, rfl, trivial⟩
 clear F
 refine ge 2 F rfl fun _ F => rdk 3 <| gc 4 F rfl fun _ F => ?_
 have F := F.sub (m' := [(0, jP g9), (1, jP g0), (2, jP g1), (3, jP g2), (4, v0), (5, jP g4), (6, jP g5), (18, .slice (some ⟨g6, 0, none⟩) 3 3), (19, jI ((3 : Nat) : Int)), (20, jI 0), (21, .bool true)]) ⟨rfl, rfl, rfl, rfl, rfl, rfl, rfl, rfl, rfl, rfl, rfl, trivial⟩
 clear F
 refine ge 9 F rfl fun _ F => ?_
 refine gx F (Lg DX rfl rfl (by decide)) 0 rfl rfl fun _ F => ?_
 refine AG F sk m0 2 rfl fun _ F => ?_
 have F := F.sub (m' := [(0, jP g9), (1, jP g0), (2, jP g1), (3, jP g2), (4, v0), (5, jP g4), (6, jP g5), (8, jU 0), (18, .slice (some ⟨g6, 0, none⟩) 3 3), (19, jI ((3 : Nat) : Int)), (20, jI 0)]) ⟨rfl, rfl, rfl, rfl, rfl, rfl, rfl, rfl, rfl, rfl, rfl, trivial⟩
 clear F
 refine ge 3 F rfl fun _ F => AG F sk m3 0 rfl fun _ F => As (args := [.const (.slice none 0 0), .tmp 25]) F Dc rfl (Ce rfl rfl) rfl fun v3 wg _ h5 F => ?_
 obtain ⟨g7, g8, rfl, h6⟩ := h5
 have sl := sk.add h6
 refine gx F (CG (i := 0) Cp rfl rfl (by decide)) 0 rfl rfl fun _ F => ?_
 have sm := SL.XX (qs := [A8 g3 47 [.slice none 0 0]]) sl.f4.f6
 refine Cm (nn := Bm) (T := AD) (qs := [A8 g7 224 [.slice none 0 0], A8 g8 142 [clo 214 [jP g3]]]) (q1 := [A8 g3 47 [.slice none 0 0]]) (t := .fixed [] (.const [])) F sm.f4.f2.f3 rfl rfl Cr rfl rfl rfl (.inr m0) (fun _ _ h => SL.De (n := Bm) rfl (SL.BI (T := AD) (SL.C3 (c := 214) (d := 203) (s := 204) (t := 47) rfl (SL.BI (T := Ty.u8) h).f3).f2).f3) fun v4 wh _ F sn => gw 1 F rfl fun _ F => ?_
 have F := F.sub (m' := [(0, jP g9), (1, jP g0), (2, jP g1), (3, jP g2), (4, v0), (5, jP g4), (6, jP g5), (18, .slice (some ⟨g6, 0, none⟩) 3 3), (19, jI ((3 : Nat) : Int)), (20, jI 0)]) ⟨rfl, rfl, rfl, rfl, rfl, rfl, rfl, rfl, rfl, rfl, trivial⟩
 clear F
 refine ge 6 F rfl fun _ F => ?_
 have F := F.sub (m' := [(0, jP g9), (1, jP g0), (2, jP g1), (3, jP g2), (4, v0), (5, jP g4), (6, jP g5), (18, .slice (some ⟨g6, 0, none⟩) 3 3), (19, jI ((3 : Nat) : Int)), (20, jI 1)]) ⟨rfl, rfl, rfl, rfl, rfl, rfl, rfl, rfl, rfl, rfl, trivial⟩
 clear F
 refine ge 6 F rfl fun _ F => ?_
 have F := F.sub (m' := [(0, jP g9), (1, jP g0), (2, jP g1), (3, jP g2), (4, v0), (5, jP g4), (6, jP g5), (18, .slice (some ⟨g6, 0, none⟩) 3 3), (19, jI ((3 : Nat) : Int)), (20, jI 1), (21, .bool true)]) ⟨rfl, rfl, rfl, rfl, rfl, rfl, rfl, rfl, rfl, rfl, rfl, trivial⟩
 clear F
 refine ge 9 F rfl fun _ F => ?_
 refine gx F (Lg DX rfl rfl (by decide)) 0 rfl rfl fun _ F => ?_
 refine AG F sn m2 2 rfl fun _ F => ?_
 have F := F.sub (m' := [(0, jP g9), (1, jP g0), (2, jP g1), (3, jP g2), (4, v0), (5, jP g4), (6, jP g5), (8, jU 19), (18, .slice (some ⟨g6, 0, none⟩) 3 3), (19, jI ((3 : Nat) : Int)), (20, jI 1)]) ⟨rfl, rfl, rfl, rfl, rfl, rfl, rfl, rfl, rfl, rfl, rfl, trivial⟩
 clear F
 refine ge 3 F rfl fun _ F => AG F sn m3 0 rfl fun _ F => As (args := [.const (.slice none 0 0), .tmp 25]) F Dc rfl (Ce rfl rfl) rfl fun v5 wi _ h7 F => ?_
 obtain ⟨ga, gb, rfl, h8⟩ := h7
 have so := sn.add h8
 refine gx F (CG (i := 19) Cp rfl rfl (by decide)) 0 rfl rfl fun _ F => ?_
 refine Cm (nn := Bm) (T := AD) (qs := [A8 ga 224 [.slice none 0 0], A8 gb 142 [clo 214 [jP g3]]]) (q1 := [A8 g3 47 [.slice none 0 0]]) (t := .fixed [] (.const [])) F so.f3.f3.f2.f3 rfl rfl Cr rfl rfl rfl (.inr m0) (fun _ _ h => SL.De (n := Bm) rfl (SL.BI (T := AD) (SL.C3 (c := 214) (d := 203) (s := 204) (t := 47) rfl (SL.BI (T := Ty.u8) h).f3).f2).f3) fun v6 wj _ F sp => gw 1 F rfl fun _ F => ?_
 have F := F.sub (m' := [(0, jP g9), (1, jP g0), (2, jP g1), (3, jP g2), (4, v0), (5, jP g4), (6, jP g5), (18, .slice (some ⟨g6, 0, none⟩) 3 3), (19, jI ((3 : Nat) : Int)), (20, jI 1)]) ⟨rfl, rfl, rfl, rfl, rfl, rfl, rfl, rfl, rfl, rfl, trivial⟩
 clear F
 refine ge 6 F rfl fun _ F => ?_
 have F := F.sub (m' := [(0, jP g9), (1, jP g0), (2, jP g1), (3, jP g2), (4, v0), (5, jP g4), (6, jP g5), (18, .slice (some ⟨g6, 0, none⟩) 3 3), (19, jI ((3 : Nat) : Int)), (20, jI 2)]) ⟨rfl, rfl, rfl, rfl, rfl, rfl, rfl, rfl, rfl, rfl, trivial⟩
 clear F
 refine ge 6 F rfl fun _ F => ?_
 have F := F.sub (m' := [(0, jP g9), (1, jP g0), (2, jP g1), (3, jP g2), (4, v0), (5, jP g4), (6, jP g5), (18, .slice (some ⟨g6, 0, none⟩) 3 3), (19, jI ((3 : Nat) : Int)), (20, jI 2), (21, .bool true)]) ⟨rfl, rfl, rfl, rfl, rfl, rfl, rfl, rfl, rfl, rfl, rfl, trivial⟩
 clear F
 refine ge 9 F rfl fun _ F => ?_
 refine gx F (Lg DX rfl rfl (by decide)) 0 rfl rfl fun _ F => ?_
 refine AG F sp m2 2 rfl fun _ F => ?_
 have F := F.sub (m' := [(0, jP g9), (1, jP g0), (2, jP g1), (3, jP g2), (4, v0), (5, jP g4), (6, jP g5), (8, jU 32), (18, .slice (some ⟨g6, 0, none⟩) 3 3), (19, jI ((3 : Nat) : Int)), (20, jI 2)]) ⟨rfl, rfl, rfl, rfl, rfl, rfl, rfl, rfl, rfl, rfl, rfl, trivial⟩
 clear F
 refine ge 3 F rfl fun _ F => AG F sp m3 0 rfl fun _ F => As (args := [.const (.slice none 0 0), .tmp 25]) F Dc rfl (Ce rfl rfl) rfl fun v7 wk _ h9 F => ?_
 obtain ⟨gd, gf, rfl, ha⟩ := h9
 have sq := sp.add ha
 refine gx F (CG (i := 32) Cp rfl rfl (by decide)) 0 rfl rfl fun _ F => ?_
 refine Cm (nn := Bm) (T := AD) (qs := [A8 gd 224 [.slice none 0 0], A8 gf 142 [clo 214 [jP g3]]]) (q1 := [A8 g3 47 [.slice none 0 0]]) (t := .fixed [] (.const [])) F sq.f3.f3.f2.f3 rfl rfl Cr rfl rfl rfl (.inr m0) (fun _ _ h => SL.De (n := Bm) rfl (SL.BI (T := AD) (SL.C3 (c := 214) (d := 203) (s := 204) (t := 47) rfl (SL.BI (T := Ty.u8) h).f3).f2).f3) fun v8 wl _ F sr => gw 1 F rfl fun _ F => ?_
 have F := F.sub (m' := [(0, jP g9), (1, jP g0), (2, jP g1), (3, jP g2), (4, v0), (5, jP g4), (6, jP g5), (18, .slice (some ⟨g6, 0, none⟩) 3 3), (19, jI ((3 : Nat) : Int)), (20, jI 2)]) ⟨rfl, rfl, rfl, rfl, rfl, rfl, rfl, rfl, rfl, rfl, trivial⟩
 clear F
 refine ge 6 F rfl fun _ F => ?_
 have F := F.sub (m' := [(0, jP g9), (1, jP g0), (2, jP g1), (3, jP g2), (4, v0), (5, jP g4), (6, jP g5), (18, .slice (some ⟨g6, 0, none⟩) 3 3), (19, jI ((3 : Nat) : Int)), (20, jI 3)]) ⟨rfl, rfl, rfl, rfl, rfl, rfl, rfl, rfl, rfl, rfl, trivial⟩
 clear F
 refine ge 6 F rfl fun _ F => ?_
 have F := F.sub (m' := [(0, jP g9), (1, jP g0), (2, jP g1), (3, jP g2), (4, v0), (5, jP g4), (6, jP g5), (18, .slice (some ⟨g6, 0, none⟩) 3 3), (19, jI ((3 : Nat) : Int)), (20, jI 3), (21, .bool false)]) ⟨rfl, rfl, rfl, rfl, rfl, rfl, rfl, rfl, rfl, rfl, rfl, trivial⟩
 clear F
 refine ge 10 F rfl fun _ F => ?_
 refine Ae (parts := [(0, .const (jU 1))]) Flat.u8 ([(1 : UInt8)] : List UInt8) F sr Br rfl (by decide) rfl rfl rfl (by simp [Value.cells]) rfl rfl rfl fun v9 wm _ F ss => ?_
 refine As (args := [.tmp 29]) F CQ rfl (BW (Ag (fO ss m0))) rfl fun va wn _ hb F => ?_
 obtain ⟨gg, rfl, hc⟩ := hb
 have st := ss.add hc
 refine As (args := [.const (.slice none 0 0), .tmp 30]) F Dc rfl (Ce rfl rfl) rfl fun vb wo _ hd F => ?_
 obtain ⟨gh, gi, rfl, he⟩ := hd
 have su := st.add he
 refine gx F (CG (i := 1) Cp rfl rfl (by decide)) 0 rfl rfl fun _ F => ?_
 refine Cm (nn := Bm) (T := AD) (qs := [A8 gh 224 [.slice none 0 0], A8 gi 142 [clo 214 [jP gg]], A8 gg 47 [v9], Sl Ty.u8 v9 ([(1 : UInt8)] : List UInt8)]) (q1 := []) (t := .fixed [] (.const ([(1 : UInt8)] : List UInt8))) F su.f5.f5.f5.f5.f4.f5 rfl rfl Cr rfl rfl rfl (.inl rfl) (fun _ _ h => SL.De (n := Bm) rfl (SL.BI (T := AD) (SL.C3 (c := 214) (d := 203) (s := 204) (t := 47) rfl h.f3.f3).f2).f3) fun vc wp _ F sv => gw 1 F rfl fun _ F => ?_
 have F := F.sub (m' := [(0, jP g9), (1, jP g0), (2, jP g1), (3, jP g2), (4, v0), (5, jP g4), (6, jP g5)]) ⟨rfl, rfl, rfl, rfl, rfl, rfl, rfl, trivial⟩
 clear F
 refine ge 3 F rfl fun _ F => ?_
 refine Ae (parts := [(0, .const (jU 2))]) Flat.u8 ([(2 : UInt8)] : List UInt8) F sv.f2.drop Br rfl (by decide) rfl rfl rfl (by simp [Value.cells]) rfl rfl rfl fun vd wq _ F sw => ?_
 refine As (args := [.tmp 33]) F CQ rfl (BW (Ag (fO sw m0))) rfl fun ve wr _ hf F => ?_
 obtain ⟨gj, rfl, hg⟩ := hf
 have sx := sw.add hg
 refine As (args := [.const (.slice none 0 0), .tmp 34]) F Dc rfl (Ce rfl rfl) rfl fun vf ws _ hh F => ?_
 obtain ⟨gk, gl, rfl, hi⟩ := hh
 have sy := sx.add hi
 refine gx F (CG (i := 2) Cp rfl rfl (by decide)) 0 rfl rfl fun _ F => ?_
 refine Cm (nn := Bm) (T := AD) (qs := [A8 gk 224 [.slice none 0 0], A8 gl 142 [clo 214 [jP gj]], A8 gj 47 [vd], Sl Ty.u8 vd ([(2 : UInt8)] : List UInt8)]) (q1 := []) (t := .fixed [] (.const ([(2 : UInt8)] : List UInt8))) F sy.f5.f5.f5.f5.f4.f5 rfl rfl Cr rfl rfl rfl (.inl rfl) (fun _ _ h => SL.De (n := Bm) rfl (SL.BI (T := AD) (SL.C3 (c := 214) (d := 203) (s := 204) (t := 47) rfl h.f3.f3).f2).f3) fun vg wt _ F sz => gw 1 F rfl fun _ F => ?_
 have F := F.sub (m' := [(0, jP g9), (1, jP g0), (2, jP g1), (3, jP g2), (4, v0), (5, jP g4), (6, jP g5)]) ⟨rfl, rfl, rfl, rfl, rfl, rfl, rfl, trivial⟩
 clear F
 refine ge 3 F rfl fun _ F => ?_
 refine Ae (parts := [(0, .const (jU 3))]) Flat.u8 ([(3 : UInt8)] : List UInt8) F sz Br rfl (by decide) rfl rfl rfl (by simp [Value.cells]) rfl rfl rfl fun vh wu _ F s10 => ?_
 refine As (args := [.tmp 37]) F CQ rfl (BW (Ag (fO s10 m0))) rfl fun vi wv _ hj F => ?_
 obtain ⟨gm, rfl, hk⟩ := hj
 have s11 := s10.add hk
 refine As (args := [.const (.slice none 0 0), .tmp 38]) F Dc rfl (Ce rfl rfl) rfl fun vj ww _ hl F => ?_
 obtain ⟨gn, go, rfl, hm⟩ := hl
 have s12 := s11.add hm
 refine gx F (CG (i := 3) Cp rfl rfl (by decide)) 0 rfl rfl fun _ F => ?_
 refine Cm (nn := Bm) (T := AD) (qs := [A8 gn 224 [.slice none 0 0], A8 go 142 [clo 214 [jP gm]], A8 gm 47 [vh], Sl Ty.u8 vh ([(3 : UInt8)] : List UInt8)]) (q1 := []) (t := .fixed [] (.const ([(3 : UInt8)] : List UInt8))) F s12.f5.f5.f5.f5.f4.f5 rfl rfl Cr rfl rfl rfl (.inl rfl) (fun _ _ h => SL.De (n := Bm) rfl (SL.BI (T := AD) (SL.C3 (c := 214) (d := 203) (s := 204) (t := 47) rfl h.f3.f3).f2).f3) fun vk wx _ F s14 => gw 1 F rfl fun _ F => ?_
 have F := F.sub (m' := [(0, jP g9), (1, jP g0), (2, jP g1), (3, jP g2), (4, v0), (5, jP g4), (6, jP g5)]) ⟨rfl, rfl, rfl, rfl, rfl, rfl, rfl, trivial⟩
 clear F
 refine ge 3 F rfl fun _ F => ?_
 refine Ae (parts := [(0, .const (jU 0))]) Flat.u8 ([(0 : UInt8)] : List UInt8) F s14 Br rfl (by decide) rfl rfl rfl (by simp [Value.cells]) rfl rfl rfl fun vl wy _ F s16 => ?_
 refine As (args := [.tmp 41]) F CQ rfl (BW (Ag (fO s16 m0))) rfl fun vm wz _ hn F => ?_
 obtain ⟨gp, rfl, hp⟩ := hn
 have s17 := s16.add hp
 refine As (args := [.const (.slice none 0 0), .tmp 42]) F Dc rfl (Ce rfl rfl) rfl fun vn w11 _ hr F => ?_
 obtain ⟨gq, gr, rfl, hs⟩ := hr
 have s18 := s17.add hs
 refine gx F (CG (i := 4) Cp rfl rfl (by decide)) 0 rfl rfl fun _ F => ?_
 refine Cm (nn := Bm) (T := AD) (qs := [A8 gq 224 [.slice none 0 0], A8 gr 142 [clo 214 [jP gp]], A8 gp 47 [vl], Sl Ty.u8 vl ([(0 : UInt8)] : List UInt8)]) (q1 := []) (t := .fixed [] (.const ([(0 : UInt8)] : List UInt8))) F s18.f5.f5.f5.f5.f4.f5 rfl rfl Cr rfl rfl rfl (.inl rfl) (fun _ _ h => SL.De (n := Bm) rfl (SL.BI (T := AD) (SL.C3 (c := 214) (d := 203) (s := 204) (t := 47) rfl h.f3.f3).f2).f3) fun vo w12 _ F s19 => gw 1 F rfl fun _ F => ?_
 have F := F.sub (m' := [(0, jP g9), (1, jP g0), (2, jP g1), (3, jP g2), (4, v0), (5, jP g4), (6, jP g5)]) ⟨rfl, rfl, rfl, rfl, rfl, rfl, rfl, trivial⟩
 clear F
 refine ge 3 F rfl fun _ F => gx F (Al (vs := [jI 1]) Eo Io rfl (cs := [jI 1, jU 0]) (rfl)) 0 rfl rfl fun _ F => ?_
 refine Ae (parts := [(0, .tmp 45)]) BZ ([(⟨1, 0⟩ : A5)] : List A5) F s19 Cv rfl (by decide) rfl rfl rfl (by simp [Value.cells]) rfl rfl rfl fun vp w13 _ F s1a => ?_
 refine AG F s1a m3 0 rfl fun _ F => As (args := [.tmp 46, .tmp 47]) F Dc rfl (Ce (Ag (fO s1a m0)) rfl) rfl fun vq w14 _ hv F => ?_
 obtain ⟨gs, gt, rfl, hw⟩ := hv
 have s1b := s1a.add hw
 refine gx F (CG (i := 5) Cp rfl rfl (by decide)) 0 rfl rfl fun _ F => ?_
 refine Cm (nn := Bm) (T := AD) (qs := [A8 gs 224 [vp], Sl AD vp ([(⟨1, 0⟩ : A5)] : List A5), A8 gt 142 [clo 214 [jP g3]]]) (q1 := [A8 g3 47 [.slice none 0 0]]) (t := .fixed ([(⟨1, 0⟩ : A5)] : List A5) (.const [])) F s1b.f4.f4.f2.f4.f4 rfl rfl Cr rfl rfl rfl (.inr m0) (fun _ _ h => SL.De (n := Bm) rfl (SL.C3 (c := 214) (d := 203) (s := 204) (t := 47) rfl (SL.BI (T := Ty.u8) h).f4).f3.f3.f3) fun vr w15 _ F s1c => gw 1 F rfl fun _ F => ?_
 have F := F.sub (m' := [(0, jP g9), (1, jP g0), (2, jP g1), (3, jP g2), (4, v0), (5, jP g4), (6, jP g5)]) ⟨rfl, rfl, rfl, rfl, rfl, rfl, rfl, trivial⟩
 clear F
 refine ge 3 F rfl fun _ F => gx F (Al (vs := [jI 0]) Eo Io rfl (cs := [jI 0, jU 0]) (rfl)) 0 rfl rfl fun _ F => ?_
 refine Ae (parts := [(0, .tmp 50)]) BZ ([(⟨0, 0⟩ : A5)] : List A5) F s1c Cv rfl (by decide) rfl rfl rfl (by simp [Value.cells]) rfl rfl rfl fun vt w16 _ F s1d => ?_
 refine AG F s1d m3 0 rfl fun _ F => As (args := [.tmp 51, .tmp 52]) F Dc rfl (Ce (Ag (fO s1d m0)) rfl) rfl fun vu w17 _ hx F => ?_
 obtain ⟨gu, gv, rfl, hy⟩ := hx
 have s1e := s1d.add hy
 refine gx F (CG (i := 6) Cp rfl rfl (by decide)) 0 rfl rfl fun _ F => ?_
 refine Cm (nn := Bm) (T := AD) (qs := [A8 gu 224 [vt], Sl AD vt ([(⟨0, 0⟩ : A5)] : List A5), A8 gv 142 [clo 214 [jP g3]]]) (q1 := [A8 g3 47 [.slice none 0 0]]) (t := .fixed ([(⟨0, 0⟩ : A5)] : List A5) (.const [])) F s1e.f4.f4.f2.f4.f4 rfl rfl Cr rfl rfl rfl (.inr m0) (fun _ _ h => SL.De (n := Bm) rfl (SL.C3 (c := 214) (d := 203) (s := 204) (t := 47) rfl (SL.BI (T := Ty.u8) h).f4).f3.f3.f3) fun vv w18 _ F s1f => gw 1 F rfl fun _ F => ?_
 have F := F.sub (m' := [(0, jP g9), (1, jP g0), (2, jP g1), (3, jP g2), (4, v0), (5, jP g4), (6, jP g5)]) ⟨rfl, rfl, rfl, rfl, rfl, rfl, rfl, trivial⟩
 clear F
 refine ge 3 F rfl fun _ F => gx F (Al (vs := [jI 0]) Eo Io rfl (cs := [jI 0, jU 0]) (rfl)) 0 rfl rfl fun _ F => ?_
 refine Ae (parts := [(0, .tmp 55)]) BZ ([(⟨0, 0⟩ : A5)] : List A5) F s1f Cv rfl (by decide) rfl rfl rfl (by simp [Value.cells]) rfl rfl rfl fun vw w19 _ F s1g => ?_
 refine As (args := [.tmp 56, .func 203]) F Dc rfl (Ce (Ag (fO s1g m0)) rfl) rfl fun vx w1a _ hz F => ?_
 obtain ⟨gy, gz, rfl, h10⟩ := hz
 have s1h := s1g.add h10
 refine gx F (CG (i := 7) Cp rfl rfl (by decide)) 0 rfl rfl fun _ F => ?_
 refine Cm (nn := Bm) (T := AD) (qs := [A8 gy 224 [vw], Sl AD vw ([(⟨0, 0⟩ : A5)] : List A5), A8 gz 142 [clo 203 []]]) (q1 := []) (t := .fixed ([(⟨0, 0⟩ : A5)] : List A5) (.dup)) F s1h.f4.f4.f2.f4.f4 rfl rfl Cr rfl rfl rfl (.inl rfl) (fun _ _ h => SL.De (n := Bm) rfl (SL.AGn (c := 214) (d := 203) (s := 204) (t := 47) h).f3.f3.f3) fun vy w1b _ F s1i => gw 1 F rfl fun _ F => ?_
 have F := F.sub (m' := [(0, jP g9), (1, jP g0), (2, jP g1), (3, jP g2), (4, v0), (5, jP g4), (6, jP g5)]) ⟨rfl, rfl, rfl, rfl, rfl, rfl, rfl, trivial⟩
 clear F
 refine ge 3 F rfl fun _ F => gx F (Al (vs := [jI 0]) Eo Io rfl (cs := [jI 0, jU 0]) (rfl)) 0 rfl rfl fun _ F => gx F (Al (vs := [jI 0]) Eo Io rfl (cs := [jI 0, jU 0]) (rfl)) 0 rfl rfl fun _ F => ?_
 refine Ae (parts := [(0, .tmp 59), (1, .tmp 60)]) BZ ([(⟨0, 0⟩ : A5), (⟨0, 0⟩ : A5)] : List A5) F s1i Cv rfl (by decide) rfl rfl rfl (by simp [Value.cells]) rfl rfl rfl fun vz w1c _ F s1j => ?_
 refine As (args := [.tmp 61, .func 204]) F Dc rfl (Ce (Ag (fO s1j m0)) rfl) rfl fun v10 w1d _ h11 F => ?_
 obtain ⟨g10, g11, rfl, h12⟩ := h11
 have s1k := s1j.add h12
 refine gx F (CG (i := 8) Cp rfl rfl (by decide)) 0 rfl rfl fun _ F => ?_
 refine Cm (nn := Bm) (T := AD) (qs := [A8 g10 224 [vz], Sl AD vz ([(⟨0, 0⟩ : A5), (⟨0, 0⟩ : A5)] : List A5), A8 g11 142 [clo 204 []]]) (q1 := []) (t := .fixed ([(⟨0, 0⟩ : A5), (⟨0, 0⟩ : A5)] : List A5) (.swap)) F s1k.f4.f4.f2.f4.f4 rfl rfl Cr rfl rfl rfl (.inl rfl) (fun _ _ h => SL.De (n := Bm) rfl (SL.A8l (c := 214) (d := 203) (s := 204) (t := 47) h).f3.f3.f3) fun v11 w1e _ F s1l => gw 1 F rfl fun _ F => ?_
 have F := F.sub (m' := [(0, jP g9), (1, jP g0), (2, jP g1), (3, jP g2), (4, v0), (5, jP g4), (6, jP g5)]) ⟨rfl, rfl, rfl, rfl, rfl, rfl, rfl, trivial⟩
 clear F
 refine ge 4 F rfl fun _ F => ?_
 refine UJ (parts := [(0, .const (jU 9)), (1, .const (jU 10)), (2, .const (jU 11)), (3, .const (jU 12)), (4, .const (jU 13))]) (vs := [jU 9, jU 10, jU 11, jU 12, jU 13]) F s1l DX rfl (by decide) rfl rfl rfl (Rc (I9 rfl (I9 rfl (I9 rfl (I9 rfl (I9 rfl Vd)))))) rfl fun g12 w1f _ F s1m => ?_
 refine gx F (Ah rfl underlying42 ⟨_, _, rfl⟩) 2 rfl rfl fun _ F => ?_
 have F := F.sub (m' := [(0, jP g9), (1, jP g0), (2, jP g1), (3, jP g2), (4, v0), (5, jP g4), (6, jP g5), (64, .slice (some ⟨g12, 0, none⟩) 5 5), (65, jI ((5 : Nat) : Int)), (66, jI 0)]) ⟨rfl, rfl, rfl, rfl, rfl, rfl, rfl, rfl, rfl, rfl, trivial⟩
 clear F
 refine ge 2 F rfl fun _ F => rdk 5 <| gc 4 F rfl fun _ F => ?_
 have F := F.sub (m' := [(0, jP g9), (1, jP g0), (2, jP g1), (3, jP g2), (4, v0), (5, jP g4), (6, jP g5), (64, .slice (some ⟨g12, 0, none⟩) 5 5), (65, jI ((5 : Nat) : Int)), (66, jI 0), (67, .bool true)]) ⟨rfl, rfl, rfl, rfl, rfl, rfl, rfl, rfl, rfl, rfl, rfl, trivial⟩
 clear F
 refine ge 9 F rfl fun _ F => ?_
 refine gx F (Lg DX rfl rfl (by decide)) 0 rfl rfl fun _ F => ?_
 refine AG F s1m m0 2 rfl fun _ F => ?_
 have F := F.sub (m' := [(0, jP g9), (1, jP g0), (2, jP g1), (3, jP g2), (4, v0), (5, jP g4), (6, jP g5), (10, jU 9), (64, .slice (some ⟨g12, 0, none⟩) 5 5), (65, jI ((5 : Nat) : Int)), (66, jI 0)]) ⟨rfl, rfl, rfl, rfl, rfl, rfl, rfl, rfl, rfl, rfl, rfl, trivial⟩
 clear F
 refine ge 4 F rfl fun _ F => ?_
 refine Ae (parts := [(0, .const (jU 1))]) Flat.u8 ([(1 : UInt8)] : List UInt8) F s1m Br rfl (by decide) rfl rfl rfl (by simp [Value.cells]) rfl rfl rfl fun v12 w1g _ F s1n => ?_
 refine As (args := [.tmp 72]) F CQ rfl (BW (Ag (fO s1n m0))) rfl fun v13 w1h _ h13 F => ?_
 obtain ⟨g13, rfl, h14⟩ := h13
 have s1o := s1n.add h14
 refine As (args := [.tmp 71, .tmp 73]) F Dc rfl (Ce (Ag (fO s1o m6)) rfl) rfl fun v14 w1i _ h15 F => ?_
 obtain ⟨g14, g15, rfl, h16⟩ := h15
 have s1p := s1o.add h16
 refine gx F (CG (i := 9) Cp rfl rfl (by decide)) 0 rfl rfl fun _ F => ?_
 have h17 := JI (s1p.BK m8)
 have s1q := SL.XX (qs := [Sl AD v0 ([(⟨x0.kind, x0.t⟩ : A5), (⟨x0.kind, x0.t⟩ : A5)] : List A5)]) s1p.f6.f8
 refine Cm (nn := Bm) (T := AD) (qs := [A8 g14 224 [v0], A8 g15 142 [clo 214 [jP g13]], A8 g13 47 [v12], Sl Ty.u8 v12 ([(1 : UInt8)] : List UInt8)]) (q1 := [Sl AD v0 ([(⟨x0.kind, x0.t⟩ : A5), (⟨x0.kind, x0.t⟩ : A5)] : List A5)]) (t := .fixed ([(⟨x0.kind, x0.t⟩ : A5), (⟨x0.kind, x0.t⟩ : A5)] : List A5) (.const ([(1 : UInt8)] : List UInt8))) F s1q.f6.f5.f5.f4.f5 rfl rfl Cr rfl rfl rfl (.inr m0) (fun _ _ h => SL.De (n := Bm) rfl (SL.C3 (c := 214) (d := 203) (s := 204) (t := 47) rfl h.f3.f3).f2.f3.f3) fun v15 w1j _ F s1r => gw 1 F rfl fun _ F => ?_
 have F := F.sub (m' := [(0, jP g9), (1, jP g0), (2, jP g1), (3, jP g2), (4, v0), (5, jP g4), (6, jP g5), (64, .slice (some ⟨g12, 0, none⟩) 5 5), (65, jI ((5 : Nat) : Int)), (66, jI 0)]) ⟨rfl, rfl, rfl, rfl, rfl, rfl, rfl, rfl, rfl, rfl, trivial⟩
 clear F
 refine ge 6 F rfl fun _ F => ?_
 have F := F.sub (m' := [(0, jP g9), (1, jP g0), (2, jP g1), (3, jP g2), (4, v0), (5, jP g4), (6, jP g5), (64, .slice (some ⟨g12, 0, none⟩) 5 5), (65, jI ((5 : Nat) : Int)), (66, jI 1)]) ⟨rfl, rfl, rfl, rfl, rfl, rfl, rfl, rfl, rfl, rfl, trivial⟩
 clear F
 refine ge 6 F rfl fun _ F => ?_
 have F := F.sub (m' := [(0, jP g9), (1, jP g0), (2, jP g1), (3, jP g2), (4, v0), (5, jP g4), (6, jP g5), (64, .slice (some ⟨g12, 0, none⟩) 5 5), (65, jI ((5 : Nat) : Int)), (66, jI 1), (67, .bool true)]) ⟨rfl, rfl, rfl, rfl, rfl, rfl, rfl, rfl, rfl, rfl, rfl, trivial⟩
 clear F
 refine ge 9 F rfl fun _ F => ?_
 refine gx F (Lg DX rfl rfl (by decide)) 0 rfl rfl fun _ F => ?_
 refine AG F s1r m2 2 rfl fun _ F => ?_
 have F := F.sub (m' := [(0, jP g9), (1, jP g0), (2, jP g1), (3, jP g2), (4, v0), (5, jP g4), (6, jP g5), (10, jU 10), (64, .slice (some ⟨g12, 0, none⟩) 5 5), (65, jI ((5 : Nat) : Int)), (66, jI 1)]) ⟨rfl, rfl, rfl, rfl, rfl, rfl, rfl, rfl, rfl, rfl, rfl, trivial⟩
 clear F
 refine ge 4 F rfl fun _ F => ?_
 refine Ae (parts := [(0, .const (jU 1))]) Flat.u8 ([(1 : UInt8)] : List UInt8) F s1r Br rfl (by decide) rfl rfl rfl (by simp [Value.cells]) rfl rfl rfl fun v16 w1k _ F s1s => ?_
 refine As (args := [.tmp 72]) F CQ rfl (BW (Ag (fO s1s m0))) rfl fun v17 w1l _ h18 F => ?_
 obtain ⟨g16, rfl, h19⟩ := h18
 have s1t := s1s.add h19
 refine As (args := [.tmp 71, .tmp 73]) F Dc rfl (Ce (Ag h17) rfl) rfl fun v18 w1m _ h1a F => ?_
 obtain ⟨g17, g18, rfl, h1b⟩ := h1a
 have s1u := s1t.add h1b
 refine gx F (CG (i := 10) Cp rfl rfl (by decide)) 0 rfl rfl fun _ F => ?_
 refine Cm (nn := Bm) (T := AD) (qs := [A8 g17 224 [v0], A8 g18 142 [clo 214 [jP g16]], A8 g16 47 [v16], Sl Ty.u8 v16 ([(1 : UInt8)] : List UInt8)]) (q1 := [Sl AD v0 ([(⟨x0.kind, x0.t⟩ : A5), (⟨x0.kind, x0.t⟩ : A5)] : List A5)]) (t := .fixed ([(⟨x0.kind, x0.t⟩ : A5), (⟨x0.kind, x0.t⟩ : A5)] : List A5) (.const ([(1 : UInt8)] : List UInt8))) F s1u.f5.f5.f5.f5.f4.f5 rfl rfl Cr rfl rfl rfl (.inr m0) (fun _ _ h => SL.De (n := Bm) rfl (SL.C3 (c := 214) (d := 203) (s := 204) (t := 47) rfl h.f3.f3).f2.f3.f3) fun v19 w1n _ F s1v => gw 1 F rfl fun _ F => ?_
 have F := F.sub (m' := [(0, jP g9), (1, jP g0), (2, jP g1), (3, jP g2), (4, v0), (5, jP g4), (6, jP g5), (64, .slice (some ⟨g12, 0, none⟩) 5 5), (65, jI ((5 : Nat) : Int)), (66, jI 1)]) ⟨rfl, rfl, rfl, rfl, rfl, rfl, rfl, rfl, rfl, rfl, trivial⟩
 clear F
 refine ge 6 F rfl fun _ F => ?_
 have F := F.sub (m' := [(0, jP g9), (1, jP g0), (2, jP g1), (3, jP g2), (4, v0), (5, jP g4), (6, jP g5), (64, .slice (some ⟨g12, 0, none⟩) 5 5), (65, jI ((5 : Nat) : Int)), (66, jI 2)]) ⟨rfl, rfl, rfl, rfl, rfl, rfl, rfl, rfl, rfl, rfl, trivial⟩
 clear F
 refine ge 6 F rfl fun _ F => ?_
 have F := F.sub (m' := [(0, jP g9), (1, jP g0), (2, jP g1), (3, jP g2), (4, v0), (5, jP g4), (6, jP g5), (64, .slice (some ⟨g12, 0, none⟩) 5 5), (65, jI ((5 : Nat) : Int)), (66, jI 2), (67, .bool true)]) ⟨rfl, rfl, rfl, rfl, rfl, rfl, rfl, rfl, rfl, rfl, rfl, trivial⟩
 clear F
 refine ge 9 F rfl fun _ F => ?_
 refine gx F (Lg DX rfl rfl (by decide)) 0 rfl rfl fun _ F => ?_
 refine AG F s1v m2 2 rfl fun _ F => ?_
 have F := F.sub (m' := [(0, jP g9), (1, jP g0), (2, jP g1), (3, jP g2), (4, v0), (5, jP g4), (6, jP g5), (10, jU 11), (64, .slice (some ⟨g12, 0, none⟩) 5 5), (65, jI ((5 : Nat) : Int)), (66, jI 2)]) ⟨rfl, rfl, rfl, rfl, rfl, rfl, rfl, rfl, rfl, rfl, rfl, trivial⟩
 clear F
 refine ge 4 F rfl fun _ F => ?_
 refine Ae (parts := [(0, .const (jU 1))]) Flat.u8 ([(1 : UInt8)] : List UInt8) F s1v Br rfl (by decide) rfl rfl rfl (by simp [Value.cells]) rfl rfl rfl fun v1a w1o _ F s1w => ?_
 refine As (args := [.tmp 72]) F CQ rfl (BW (Ag (fO s1w m0))) rfl fun v1b w1p _ h1c F => ?_
 obtain ⟨g19, rfl, h1d⟩ := h1c
 have s1x := s1w.add h1d
 refine As (args := [.tmp 71, .tmp 73]) F Dc rfl (Ce (Ag h17) rfl) rfl fun v1c w1q _ h1e F => ?_
 obtain ⟨g1a, g1b, rfl, h1f⟩ := h1e
 have s1y := s1x.add h1f
 refine gx F (CG (i := 11) Cp rfl rfl (by decide)) 0 rfl rfl fun _ F => ?_
 refine Cm (nn := Bm) (T := AD) (qs := [A8 g1a 224 [v0], A8 g1b 142 [clo 214 [jP g19]], A8 g19 47 [v1a], Sl Ty.u8 v1a ([(1 : UInt8)] : List UInt8)]) (q1 := [Sl AD v0 ([(⟨x0.kind, x0.t⟩ : A5), (⟨x0.kind, x0.t⟩ : A5)] : List A5)]) (t := .fixed ([(⟨x0.kind, x0.t⟩ : A5), (⟨x0.kind, x0.t⟩ : A5)] : List A5) (.const ([(1 : UInt8)] : List UInt8))) F s1y.f5.f5.f5.f5.f4.f5 rfl rfl Cr rfl rfl rfl (.inr m0) (fun _ _ h => SL.De (n := Bm) rfl (SL.C3 (c := 214) (d := 203) (s := 204) (t := 47) rfl h.f3.f3).f2.f3.f3) fun v1d w1r _ F s1z => gw 1 F rfl fun _ F => ?_
 have F := F.sub (m' := [(0, jP g9), (1, jP g0), (2, jP g1), (3, jP g2), (4, v0), (5, jP g4), (6, jP g5), (64, .slice (some ⟨g12, 0, none⟩) 5 5), (65, jI ((5 : Nat) : Int)), (66, jI 2)]) ⟨rfl, rfl, rfl, rfl, rfl, rfl, rfl, rfl, rfl, rfl, trivial⟩
 clear F
 refine ge 6 F rfl fun _ F => ?_
 have F := F.sub (m' := [(0, jP g9), (1, jP g0), (2, jP g1), (3, jP g2), (4, v0), (5, jP g4), (6, jP g5), (64, .slice (some ⟨g12, 0, none⟩) 5 5), (65, jI ((5 : Nat) : Int)), (66, jI 3)]) ⟨rfl, rfl, rfl, rfl, rfl, rfl, rfl, rfl, rfl, rfl, trivial⟩
 clear F
 refine ge 6 F rfl fun _ F => ?_
 have F := F.sub (m' := [(0, jP g9), (1, jP g0), (2, jP g1), (3, jP g2), (4, v0), (5, jP g4), (6, jP g5), (64, .slice (some ⟨g12, 0, none⟩) 5 5), (65, jI ((5 : Nat) : Int)), (66, jI 3), (67, .bool true)]) ⟨rfl, rfl, rfl, rfl, rfl, rfl, rfl, rfl, rfl, rfl, rfl, trivial⟩
 clear F
 refine ge 9 F rfl fun _ F => ?_
 refine gx F (Lg DX rfl rfl (by decide)) 0 rfl rfl fun _ F => ?_
 refine AG F s1z m2 2 rfl fun _ F => ?_
 have F := F.sub (m' := [(0, jP g9), (1, jP g0), (2, jP g1), (3, jP g2), (4, v0), (5, jP g4), (6, jP g5), (10, jU 12), (64, .slice (some ⟨g12, 0, none⟩) 5 5), (65, jI ((5 : Nat) : Int)), (66, jI 3)]) ⟨rfl, rfl, rfl, rfl, rfl, rfl, rfl, rfl, rfl, rfl, rfl, trivial⟩
 clear F
 refine ge 4 F rfl fun _ F => ?_
 refine Ae (parts := [(0, .const (jU 1))]) Flat.u8 ([(1 : UInt8)] : List UInt8) F s1z Br rfl (by decide) rfl rfl rfl (by simp [Value.cells]) rfl rfl rfl fun v1e w1s _ F s20 => ?_
 refine As (args := [.tmp 72]) F CQ rfl (BW (Ag (fO s20 m0))) rfl fun v1f w1t _ h1g F => ?_
 obtain ⟨g1c, rfl, h1h⟩ := h1g
 have s21 := s20.add h1h
 refine As (args := [.tmp 71, .tmp 73]) F Dc rfl (Ce (Ag h17) rfl) rfl fun v1g w1u _ h1i F => ?_
 obtain ⟨g1d, g1e, rfl, h1j⟩ := h1i
 have s22 := s21.add h1j
 refine gx F (CG (i := 12) Cp rfl rfl (by decide)) 0 rfl rfl fun _ F => ?_
 refine Cm (nn := Bm) (T := AD) (qs := [A8 g1d 224 [v0], A8 g1e 142 [clo 214 [jP g1c]], A8 g1c 47 [v1e], Sl Ty.u8 v1e ([(1 : UInt8)] : List UInt8)]) (q1 := [Sl AD v0 ([(⟨x0.kind, x0.t⟩ : A5), (⟨x0.kind, x0.t⟩ : A5)] : List A5)]) (t := .fixed ([(⟨x0.kind, x0.t⟩ : A5), (⟨x0.kind, x0.t⟩ : A5)] : List A5) (.const ([(1 : UInt8)] : List UInt8))) F s22.f5.f5.f5.f5.f4.f5 rfl rfl Cr rfl rfl rfl (.inr m0) (fun _ _ h => SL.De (n := Bm) rfl (SL.C3 (c := 214) (d := 203) (s := 204) (t := 47) rfl h.f3.f3).f2.f3.f3) fun v1h w1v _ F s23 => gw 1 F rfl fun _ F => ?_
 have F := F.sub (m' := [(0, jP g9), (1, jP g0), (2, jP g1), (3, jP g2), (4, v0), (5, jP g4), (6, jP g5), (64, .slice (some ⟨g12, 0, none⟩) 5 5), (65, jI ((5 : Nat) : Int)), (66, jI 3)]) ⟨rfl, rfl, rfl, rfl, rfl, rfl, rfl, rfl, rfl, rfl, trivial⟩
 clear F
 refine ge 6 F rfl fun _ F => ?_
 have F := F.sub (m' := [(0, jP g9), (1, jP g0), (2, jP g1), (3, jP g2), (4, v0), (5, jP g4), (6, jP g5), (64, .slice (some ⟨g12, 0, none⟩) 5 5), (65, jI ((5 : Nat) : Int)), (66, jI 4)]) ⟨rfl, rfl, rfl, rfl, rfl, rfl, rfl, rfl, rfl, rfl, trivial⟩
 clear F
 refine ge 6 F rfl fun _ F => ?_
 have F := F.sub (m' := [(0, jP g9), (1, jP g0), (2, jP g1), (3, jP g2), (4, v0), (5, jP g4), (6, jP g5), (64, .slice (some ⟨g12, 0, none⟩) 5 5), (65, jI ((5 : Nat) : Int)), (66, jI 4), (67, .bool true)]) ⟨rfl, rfl, rfl, rfl, rfl, rfl, rfl, rfl, rfl, rfl, rfl, trivial⟩
 clear F
 refine ge 9 F rfl fun _ F => ?_
 refine gx F (Lg DX rfl rfl (by decide)) 0 rfl rfl fun _ F => ?_
 refine AG F s23 m2 2 rfl fun _ F => ?_
 have F := F.sub (m' := [(0, jP g9), (1, jP g0), (2, jP g1), (3, jP g2), (4, v0), (5, jP g4), (6, jP g5), (10, jU 13), (64, .slice (some ⟨g12, 0, none⟩) 5 5), (65, jI ((5 : Nat) : Int)), (66, jI 4)]) ⟨rfl, rfl, rfl, rfl, rfl, rfl, rfl, rfl, rfl, rfl, rfl, trivial⟩
 clear F
 refine ge 4 F rfl fun _ F => ?_
 refine Ae (parts := [(0, .const (jU 1))]) Flat.u8 ([(1 : UInt8)] : List UInt8) F s23 Br rfl (by decide) rfl rfl rfl (by simp [Value.cells]) rfl rfl rfl fun v1i w1w _ F s24 => ?_
 refine As (args := [.tmp 72]) F CQ rfl (BW (Ag (fO s24 m0))) rfl fun v1j w1x _ h1k F => ?_
 obtain ⟨g1f, rfl, h1l⟩ := h1k
 have s25 := s24.add h1l
 refine As (args := [.tmp 71, .tmp 73]) F Dc rfl (Ce (Ag h17) rfl) rfl fun v1k w1y _ h1m F => ?_
 obtain ⟨g1g, g1h, rfl, h1n⟩ := h1m
 have s26 := s25.add h1n
 refine gx F (CG (i := 13) Cp rfl rfl (by decide)) 0 rfl rfl fun _ F => ?_
 refine Cm (nn := Bm) (T := AD) (qs := [A8 g1g 224 [v0], A8 g1h 142 [clo 214 [jP g1f]], A8 g1f 47 [v1i], Sl Ty.u8 v1i ([(1 : UInt8)] : List UInt8)]) (q1 := [Sl AD v0 ([(⟨x0.kind, x0.t⟩ : A5), (⟨x0.kind, x0.t⟩ : A5)] : List A5)]) (t := .fixed ([(⟨x0.kind, x0.t⟩ : A5), (⟨x0.kind, x0.t⟩ : A5)] : List A5) (.const ([(1 : UInt8)] : List UInt8))) F s26.f5.f5.f5.f5.f4.f5 rfl rfl Cr rfl rfl rfl (.inr m0) (fun _ _ h => SL.De (n := Bm) rfl (SL.C3 (c := 214) (d := 203) (s := 204) (t := 47) rfl h.f3.f3).f2.f3.f3) fun v1l w1z _ F s27 => gw 1 F rfl fun _ F => ?_
 have F := F.sub (m' := [(0, jP g9), (1, jP g0), (2, jP g1), (3, jP g2), (4, v0), (5, jP g4), (6, jP g5), (64, .slice (some ⟨g12, 0, none⟩) 5 5), (65, jI ((5 : Nat) : Int)), (66, jI 4)]) ⟨rfl, rfl, rfl, rfl, rfl, rfl, rfl, rfl, rfl, rfl, trivial⟩
 clear F
 refine ge 6 F rfl fun _ F => ?_
 have F := F.sub (m' := [(0, jP g9), (1, jP g0), (2, jP g1), (3, jP g2), (4, v0), (5, jP g4), (6, jP g5), (64, .slice (some ⟨g12, 0, none⟩) 5 5), (65, jI ((5 : Nat) : Int)), (66, jI 5)]) ⟨rfl, rfl, rfl, rfl, rfl, rfl, rfl, rfl, rfl, rfl, trivial⟩
 clear F
 refine ge 6 F rfl fun _ F => ?_
 have F := F.sub (m' := [(0, jP g9), (1, jP g0), (2, jP g1), (3, jP g2), (4, v0), (5, jP g4), (6, jP g5), (64, .slice (some ⟨g12, 0, none⟩) 5 5), (65, jI ((5 : Nat) : Int)), (66, jI 5), (67, .bool false)]) ⟨rfl, rfl, rfl, rfl, rfl, rfl, rfl, rfl, rfl, rfl, rfl, trivial⟩
 clear F
 refine ge 9 F rfl fun _ F => Cq Bq s27.drop.drop ?_
 refine hq [0] F s27.drew.drop.drop (QI.ld m4 rfl <| QI.nil) (by kernel_rfl) fun _ F => ?_
 refine CJ [0, 1, 2, 3] (fun a w_ => ∃ v1m : Value, ∃ g1i : Nat, ∃ v1n : Value, Fr a 162 [(0, jP g9), (1, jP g0), (2, jP g1), (3, jP g2), (4, v0), (5, jP g4), (6, jP g5), (78, v1m), (80, clo 214 [jP g1i])] ∧ SL w [] w_ [A8 g12 5 [jU 9, jU 10, jU 11, jU 12, jU 13], A8 g4 142 [clo 214 [jP g3]], A8 g2 253 [jI x2.kind, jU (x2.t.toNat : Int)], A8 g1 253 [jI x1.kind, jU (x1.t.toNat : Int)], A8 g0 253 [jI x0.kind, jU (x0.t.toNat : Int)], A8 g9 249 (List.replicate 34 .nilFunc), Sl AD v1m ([(⟨x0.kind, x0.t⟩ : A5)] : List A5), Sl Ty.u8 v1n ([(1 : UInt8)] : List UInt8), A8 g1i 47 [v1n], A8 g5 249 v1l, I0 Bm AD 34 v1l (NH x0 x1 x2) [[Sl AD v0 ([(⟨x0.kind, x0.t⟩ : A5), (⟨x0.kind, x0.t⟩ : A5)] : List A5)], [A8 g3 47 [.slice none 0 0]]]]) ?_ fun hD0 => ?_
 ·rintro a w_ ⟨v1m, g1i, v1n, F, s28⟩
  refine ho 4 rfl (by kernel_rfl) ?_
  refine As (args := [.tmp 78, .tmp 80]) F Dc rfl (Ce (Ag (fO s28 m6)) rfl) rfl fun v1o w20 _ h1o F => ?_
  obtain ⟨g1j, g1k, rfl, h1p⟩ := h1o
  have s29 := s28.add h1p
  refine gw 1 F rfl fun _ F => ⟨s29.drop.drop.f6.drop.f6.drop.f6.drop.f6.drop.f6.drop, ?_⟩
  refine hq [5] F s29.drop.drop.f6.drop.f6.drop.f6.drop.f6.drop.f6.drop (QI.op rfl (fun _ hC => CG (i := 14) Cp rfl rfl (by decide)) rfl <| QI.nil) (by kernel_rfl) fun _ F => ?_
  refine ho 6 rfl (by kernel_rfl) ?_
  refine Cm (nn := Bm) (T := AD) (qs := [A8 g1j 224 [v1m], Sl AD v1m ([(⟨x0.kind, x0.t⟩ : A5)] : List A5), A8 g1k 142 [clo 214 [jP g1i]], A8 g1i 47 [v1n], Sl Ty.u8 v1n ([(1 : UInt8)] : List UInt8)]) (q1 := []) (t := .fixed ([(⟨x0.kind, x0.t⟩ : A5)] : List A5) (.const ([(1 : UInt8)] : List UInt8))) F s29.f12.f12.f11.f12.f4.f12.f6 rfl rfl Cr rfl rfl rfl (.inl rfl) (fun _ _ h => SL.De (n := Bm) rfl (SL.C3 (c := 214) (d := 203) (s := 204) (t := 47) rfl h.f4.f4).f3.f3.f3) fun v1p w21 _ F s2a => gw 1 F rfl fun _ F => ⟨s2a.drop.drop, ?_⟩
  refine CP (by kernel_rfl) ?_
  refine ge 4 F rfl fun _ F => ?_
  refine Ae (parts := [(0, .const (jU 2))]) Flat.u8 ([(2 : UInt8)] : List UInt8) F s2a Br rfl (by decide) rfl rfl rfl (by simp [Value.cells]) rfl rfl rfl fun v1q w22 _ F s2b => ?_
  refine As (args := [.tmp 84]) F CQ rfl (BW (Ag (fO s2b m0))) rfl fun v1r w23 _ h1q F => ?_
  obtain ⟨g1l, rfl, h1r⟩ := h1q
  have s2c := s2b.add h1r
  refine As (args := [.tmp 83, .tmp 85]) F Dc rfl (Ce (Ag h17) rfl) rfl fun v1s w24 _ h1s F => ?_
  obtain ⟨g1m, g1n, rfl, h1t⟩ := h1s
  have s2d := s2c.add h1t
  refine gx F (CG (i := 15) Cp rfl rfl (by decide)) 0 rfl rfl fun _ F => ?_
  refine Cm (nn := Bm) (T := AD) (qs := [A8 g1m 224 [v0], A8 g1n 142 [clo 214 [jP g1l]], A8 g1l 47 [v1q], Sl Ty.u8 v1q ([(2 : UInt8)] : List UInt8)]) (q1 := [Sl AD v0 ([(⟨x0.kind, x0.t⟩ : A5), (⟨x0.kind, x0.t⟩ : A5)] : List A5)]) (t := .fixed ([(⟨x0.kind, x0.t⟩ : A5), (⟨x0.kind, x0.t⟩ : A5)] : List A5) (.const ([(2 : UInt8)] : List UInt8))) F s2d.f5.f5.f5.f5.f4.f5 rfl rfl Cr rfl rfl rfl (.inr m0) (fun _ _ h => SL.De (n := Bm) rfl (SL.C3 (c := 214) (d := 203) (s := 204) (t := 47) rfl h.f3.f3).f2.f3.f3) fun v1t w25 _ F s2e => gw 1 F rfl fun _ F => ?_
  have F := F.sub (m' := [(0, jP g9), (1, jP g0), (2, jP g1), (3, jP g2), (5, jP g4), (6, jP g5)]) ⟨rfl, rfl, rfl, rfl, rfl, rfl, trivial⟩
  clear F
  refine ge 3 F rfl fun _ F => gx F (Al (vs := [jI 3]) Eo Io rfl (cs := [jI 3, jU 0]) (rfl)) 0 rfl rfl fun _ F => gx F (Al (vs := [jI 3]) Eo Io rfl (cs := [jI 3, jU 0]) (rfl)) 0 rfl rfl fun _ F => ?_
  refine Ae (parts := [(0, .tmp 88), (1, .tmp 89)]) BZ ([(⟨3, 0⟩ : A5), (⟨3, 0⟩ : A5)] : List A5) F s2e.f2.drop Cv rfl (by decide) rfl rfl rfl (by simp [Value.cells]) rfl rfl rfl fun v1u w26 _ F s2f => ?_
  refine Ae (parts := [(0, .const (jU 2))]) Flat.u8 ([(2 : UInt8)] : List UInt8) F s2f Br rfl (by decide) rfl rfl rfl (by simp [Value.cells]) rfl rfl rfl fun v1v w27 _ F s2g => ?_
  refine As (args := [.tmp 91]) F CQ rfl (BW (Ag (fO s2g m0))) rfl fun v1w w28 _ h1u F => ?_
  obtain ⟨g1o, rfl, h1v⟩ := h1u
  have s2h := s2g.add h1v
  refine As (args := [.tmp 90, .tmp 92]) F Dc rfl (Ce (Ag (fO s2h m2)) rfl) rfl fun v1x w29 _ h1w F => ?_
  obtain ⟨g1p, g1q, rfl, h1x⟩ := h1w
  have s2i := s2h.add h1x
  refine gx F (CG (i := 16) Cp rfl rfl (by decide)) 0 rfl rfl fun _ F => ?_
  refine Cm (nn := Bm) (T := AD) (qs := [A8 g1p 224 [v1u], Sl AD v1u ([(⟨3, 0⟩ : A5), (⟨3, 0⟩ : A5)] : List A5), A8 g1q 142 [clo 214 [jP g1o]], A8 g1o 47 [v1v], Sl Ty.u8 v1v ([(2 : UInt8)] : List UInt8)]) (q1 := []) (t := .fixed ([(⟨3, 0⟩ : A5), (⟨3, 0⟩ : A5)] : List A5) (.const ([(2 : UInt8)] : List UInt8))) F s2i.f6.f6.f5.f5.f4.f6.f6 rfl rfl Cr rfl rfl rfl (.inl rfl) (fun _ _ h => SL.De (n := Bm) rfl (SL.C3 (c := 214) (d := 203) (s := 204) (t := 47) rfl h.f4.f4).f3.f3.f3) fun v1y w2a _ F s2j => gw 1 F rfl fun _ F => ?_
  have F := F.sub (m' := [(0, jP g9), (1, jP g0), (2, jP g1), (3, jP g2), (5, jP g4), (6, jP g5)]) ⟨rfl, rfl, rfl, rfl, rfl, rfl, trivial⟩
  clear F
  refine ge 2 F rfl fun _ F => Cq Bq s2j.drop.drop ?_
  refine hq [0] F s2j.drew.drop.drop (QI.ld m2 rfl <| QI.nil) (by kernel_rfl) fun _ F => ?_
  refine CJ [0, 1, 2, 3] (fun a w_ => ∃ v1z : Value, ∃ g1r : Nat, ∃ v20 : Value, Fr a 162 [(0, jP g9), (1, jP g0), (2, jP g1), (3, jP g2), (5, jP g4), (6, jP g5), (96, v1z), (98, clo 214 [jP g1r])] ∧ SL w [] w_ [A8 g4 142 [clo 214 [jP g3]], A8 g2 253 [jI x2.kind, jU (x2.t.toNat : Int)], A8 g1 253 [jI x1.kind, jU (x1.t.toNat : Int)], A8 g0 253 [jI x0.kind, jU (x0.t.toNat : Int)], A8 g9 249 (List.replicate 34 .nilFunc), Sl AD v1z ([(⟨x1.kind, x1.t⟩ : A5)] : List A5), Sl Ty.u8 v20 ([(2 : UInt8)] : List UInt8), A8 g1r 47 [v20], A8 g5 249 v1y, I0 Bm AD 34 v1y (NQ x0 x1 x2) [[Sl AD v0 ([(⟨x0.kind, x0.t⟩ : A5), (⟨x0.kind, x0.t⟩ : A5)] : List A5)], [A8 g3 47 [.slice none 0 0]]]]) ?_ fun hD0 => ?_
  ·rintro a w_ ⟨v1z, g1r, v20, F, s2k⟩
   refine ho 4 rfl (by kernel_rfl) ?_
   refine As (args := [.tmp 96, .tmp 98]) F Dc rfl (Ce (Ag (fO s2k m5)) rfl) rfl fun v21 w2b _ h1y F => ?_
   obtain ⟨g1s, g1t, rfl, h1z⟩ := h1y
   have s2l := s2k.add h1z
   refine gw 1 F rfl fun _ F => ⟨s2l.drop.drop.f5.drop.f5.drop.f5.drop.f5.drop.f5.drop, ?_⟩
   refine hq [5] F s2l.drop.drop.f5.drop.f5.drop.f5.drop.f5.drop.f5.drop (QI.op rfl (fun _ hC => CG (i := 17) Cp rfl rfl (by decide)) rfl <| QI.nil) (by kernel_rfl) fun _ F => ?_
   refine ho 6 rfl (by kernel_rfl) ?_
   refine Cm (nn := Bm) (T := AD) (qs := [A8 g1s 224 [v1z], Sl AD v1z ([(⟨x1.kind, x1.t⟩ : A5)] : List A5), A8 g1t 142 [clo 214 [jP g1r]], A8 g1r 47 [v20], Sl Ty.u8 v20 ([(2 : UInt8)] : List UInt8)]) (q1 := []) (t := .fixed ([(⟨x1.kind, x1.t⟩ : A5)] : List A5) (.const ([(2 : UInt8)] : List UInt8))) F s2l.f11.f11.f10.f11.f4.f11.f6 rfl rfl Cr rfl rfl rfl (.inl rfl) (fun _ _ h => SL.De (n := Bm) rfl (SL.C3 (c := 214) (d := 203) (s := 204) (t := 47) rfl h.f4.f4).f3.f3.f3) fun v22 w2c _ F s2m => gw 1 F rfl fun _ F => ⟨s2m.drop.drop, ?_⟩
   refine CP (by kernel_rfl) ?_
   refine ge 3 F rfl fun _ F => gx F (Al (vs := [jI 2]) Eo Io rfl (cs := [jI 2, jU 0]) (rfl)) 0 rfl rfl fun _ F => gx F (Al (vs := [jI 2]) Eo Io rfl (cs := [jI 2, jU 0]) (rfl)) 0 rfl rfl fun _ F => ?_
   refine Ae (parts := [(0, .tmp 101), (1, .tmp 102)]) BZ ([(⟨2, 0⟩ : A5), (⟨2, 0⟩ : A5)] : List A5) F s2m Cv rfl (by decide) rfl rfl rfl (by simp [Value.cells]) rfl rfl rfl fun v23 w2d _ F s2n => ?_
   refine Ae (parts := [(0, .const (jU 2))]) Flat.u8 ([(2 : UInt8)] : List UInt8) F s2n Br rfl (by decide) rfl rfl rfl (by simp [Value.cells]) rfl rfl rfl fun v24 w2e _ F s2o => ?_
   refine As (args := [.tmp 104]) F CQ rfl (BW (Ag (fO s2o m0))) rfl fun v25 w2f _ h20 F => ?_
   obtain ⟨g1u, rfl, h21⟩ := h20
   have s2p := s2o.add h21
   refine As (args := [.tmp 103, .tmp 105]) F Dc rfl (Ce (Ag (fO s2p m2)) rfl) rfl fun v26 w2g _ h22 F => ?_
   obtain ⟨g1v, g1w, rfl, h23⟩ := h22
   have s2q := s2p.add h23
   refine gx F (CG (i := 18) Cp rfl rfl (by decide)) 0 rfl rfl fun _ F => ?_
   refine Cm (nn := Bm) (T := AD) (qs := [A8 g1v 224 [v23], Sl AD v23 ([(⟨2, 0⟩ : A5), (⟨2, 0⟩ : A5)] : List A5), A8 g1w 142 [clo 214 [jP g1u]], A8 g1u 47 [v24], Sl Ty.u8 v24 ([(2 : UInt8)] : List UInt8)]) (q1 := []) (t := .fixed ([(⟨2, 0⟩ : A5), (⟨2, 0⟩ : A5)] : List A5) (.const ([(2 : UInt8)] : List UInt8))) F s2q.f6.f6.f5.f5.f4.f6.f6 rfl rfl Cr rfl rfl rfl (.inl rfl) (fun _ _ h => SL.De (n := Bm) rfl (SL.C3 (c := 214) (d := 203) (s := 204) (t := 47) rfl h.f4.f4).f3.f3.f3) fun v27 w2h _ F s2r => gw 1 F rfl fun _ F => ?_
   have F := F.sub (m' := [(0, jP g9), (1, jP g0), (2, jP g1), (3, jP g2), (5, jP g4), (6, jP g5)]) ⟨rfl, rfl, rfl, rfl, rfl, rfl, trivial⟩
   clear F
   refine ge 3 F rfl fun _ F => AG F s2r m4 0 rfl fun _ F => ?_
   refine Ae (parts := [(0, .tmp 108)]) BZ ([(⟨x1.kind, x1.t⟩ : A5)] : List A5) F s2r Cv rfl (by decide) rfl rfl rfl (by simp [Value.cells]) rfl rfl rfl fun v28 w2i _ F s2s => ?_
   refine AG F s2s m3 0 rfl fun _ F => As (args := [.tmp 109, .tmp 110]) F Dc rfl (Ce (Ag (fO s2s m0)) rfl) rfl fun v29 w2j _ h24 F => ?_
   obtain ⟨g1x, g1y, rfl, h25⟩ := h24
   have s2t := s2s.add h25
   refine gx F (CG (i := 20) Cp rfl rfl (by decide)) 0 rfl rfl fun _ F => ?_
   refine Cm (nn := Bm) (T := AD) (qs := [A8 g1x 224 [v28], Sl AD v28 ([(⟨x1.kind, x1.t⟩ : A5)] : List A5), A8 g1y 142 [clo 214 [jP g3]]]) (q1 := [A8 g3 47 [.slice none 0 0]]) (t := .fixed ([(⟨x1.kind, x1.t⟩ : A5)] : List A5) (.const [])) F s2t.f4.f4.f2.f4.f4 rfl rfl Cr rfl rfl rfl (.inr m1) (fun _ _ h => SL.De (n := Bm) rfl (SL.C3 (c := 214) (d := 203) (s := 204) (t := 47) rfl (SL.BI (T := Ty.u8) h).f4).f3.f3.f3) fun v2a w2k _ F s2u => gw 1 F rfl fun _ F => ?_
   have F := F.sub (m' := [(0, jP g9), (1, jP g0), (3, jP g2), (5, jP g4), (6, jP g5)]) ⟨rfl, rfl, rfl, rfl, rfl, trivial⟩
   clear F
   refine ge 3 F rfl fun _ F => ?_
   refine gx F (CG (i := 21) Cp rfl rfl (by decide)) 0 rfl rfl fun _ F => ?_
   refine Cm (nn := Bm) (T := AD) (qs := []) (q1 := []) (t := .call) F s2u.f1.f1 rfl rfl Cr rfl rfl rfl (.inl rfl) (fun _ _ h => SL.A9o (n := Bm) rfl h) fun v2b w2l _ F s2v => gw 1 F rfl fun _ F => ?_
   have F := F.sub (m' := [(0, jP g9), (1, jP g0), (3, jP g2), (5, jP g4), (6, jP g5)]) ⟨rfl, rfl, rfl, rfl, rfl, trivial⟩
   clear F
   refine ge 3 F rfl fun _ F => gx F (Gc (cs := [.tmp 5]) (vs := [jP g4]) rfl) 0 rfl rfl fun _ F => ?_
   refine gx F (CG (i := 22) Cp rfl rfl (by decide)) 0 rfl rfl fun _ F => ?_
   have s2w := SL.A9v (qs := [A8 g4 142 [clo 214 [jP g3]]]) m1 s2v.f1.f2
   refine Cm (nn := Bm) (T := AD) (qs := []) (q1 := [A8 g4 142 [clo 214 [jP g3]], A8 g3 47 [.slice none 0 0]]) (t := .ret (.const [])) F s2w.f1 rfl rfl Cr rfl rfl rfl (.inr m0) (fun _ _ h => SL.AF9 (n := Bm) rfl (SL.C3 (c := 214) (d := 203) (s := 204) (t := 47) rfl (SL.BI (T := Ty.u8) h).f2).f1) fun v2c w2m _ F s2x => gw 1 F rfl fun _ F => ?_
   have F := F.sub (m' := [(0, jP g9), (1, jP g0), (3, jP g2), (5, jP g4), (6, jP g5)]) ⟨rfl, rfl, rfl, rfl, rfl, trivial⟩
   clear F
   refine ge 3 F rfl fun _ F => As (args := [.const (.slice none 0 0), .const (.bool true)]) F TL rfl (N3 rfl rfl) rfl fun v2d w2n _ h26 F => ?_
   obtain ⟨g1z, g20, rfl, h27⟩ := h26
   have s2y := s2x.add h27
   refine gx F (CG (i := 23) Cp rfl rfl (by decide)) 0 rfl rfl fun _ F => ?_
   refine Cm (nn := Bm) (T := AD) (qs := [A8 g20 4 [.bool true], A8 g1z 224 [.slice none 0 0]]) (q1 := []) (t := .classed [] true) F s2y.f3.f3.f3.f3 rfl rfl Cr rfl rfl rfl (.inl rfl) (fun _ _ h => SL.QZ (n := Bm) rfl (SL.BI (T := AD) h).f2.f2) fun v2e w2o _ F s2z => gw 1 F rfl fun _ F => ?_
   have F := F.sub (m' := [(0, jP g9), (1, jP g0), (3, jP g2), (5, jP g4), (6, jP g5)]) ⟨rfl, rfl, rfl, rfl, rfl, trivial⟩
   clear F
   refine ge 3 F rfl fun _ F => As (args := [.const (.bool false)]) F Xv rfl (R9 rfl) rfl fun v2f w2p _ h28 F => ?_
   obtain ⟨g21, rfl, h29⟩ := h28
   have s30 := s2z.add h29
   refine gx F (CG (i := 24) Cp rfl rfl (by decide)) 0 rfl rfl fun _ F => ?_
   refine Cm (nn := Bm) (T := AD) (qs := [A8 g21 4 [.bool false]]) (q1 := []) (t := .field false) F s30.f2.f2.f2 rfl rfl Cr rfl rfl rfl (.inl rfl) (fun _ _ h => SL.XU (n := Bm) rfl h) fun v2g w2q _ F s31 => gw 1 F rfl fun _ F => ?_
   have F := F.sub (m' := [(0, jP g9), (1, jP g0), (3, jP g2), (5, jP g4), (6, jP g5)]) ⟨rfl, rfl, rfl, rfl, rfl, trivial⟩
   clear F
   refine ge 3 F rfl fun _ F => As (args := [.const (.bool true)]) F Xv rfl (R9 rfl) rfl fun v2h w2r _ h2a F => ?_
   obtain ⟨g22, rfl, h2b⟩ := h2a
   have s32 := s31.add h2b
   refine gx F (CG (i := 25) Cp rfl rfl (by decide)) 0 rfl rfl fun _ F => ?_
   refine Cm (nn := Bm) (T := AD) (qs := [A8 g22 4 [.bool true]]) (q1 := []) (t := .field true) F s32.f2.f2.f2 rfl rfl Cr rfl rfl rfl (.inl rfl) (fun _ _ h => SL.XU (n := Bm) rfl h) fun v2i w2s _ F s33 => gw 1 F rfl fun _ F => ?_
   have F := F.sub (m' := [(0, jP g9), (1, jP g0), (3, jP g2), (5, jP g4), (6, jP g5)]) ⟨rfl, rfl, rfl, rfl, rfl, trivial⟩
   clear F
   refine ge 2 F rfl fun _ F => Cq Bq s33.drop.drop ?_
   refine hq [0] F s33.drew.drop.drop (QI.ld m2 rfl <| QI.nil) (by kernel_rfl) fun _ F => ?_
   refine CJ [0, 1, 2, 3] (fun a w_ => ∃ v2j : Value, ∃ g23 : Nat, ∃ v2k : Value, Fr a 162 [(0, jP g9), (1, jP g0), (3, jP g2), (5, jP g4), (6, jP g5), (123, v2j), (125, clo 214 [jP g23])] ∧ SL w [] w_ [A8 g2 253 [jI x2.kind, jU (x2.t.toNat : Int)], A8 g1 253 [jI x1.kind, jU (x1.t.toNat : Int)], A8 g0 253 [jI x0.kind, jU (x0.t.toNat : Int)], A8 g9 249 (List.replicate 34 .nilFunc), A8 g5 249 v2i, Sl AD v2j ([(⟨x0.kind, x0.t⟩ : A5)] : List A5), Sl Ty.u8 v2k ([(4 : UInt8)] : List UInt8), A8 g23 47 [v2k], I0 Bm AD 34 v2i (NL x0 x1 x2) [[A8 g4 142 [clo 214 [jP g3]], A8 g3 47 [.slice none 0 0]], [Sl AD v0 ([(⟨x0.kind, x0.t⟩ : A5), (⟨x0.kind, x0.t⟩ : A5)] : List A5)], [A8 g3 47 [.slice none 0 0]]]]) ?_ fun hD0 => ?_
   ·rintro a w_ ⟨v2j, g23, v2k, F, s34⟩
    refine ho 4 rfl (by kernel_rfl) ?_
    refine As (args := [.tmp 123, .tmp 125]) F Dc rfl (Ce (Ag (fO s34 m5)) rfl) rfl fun v2l w2t _ h2c F => ?_
    obtain ⟨g24, g25, rfl, h2d⟩ := h2c
    have s35 := s34.add h2d
    refine gw 1 F rfl fun _ F => ⟨s35.drop.drop.f4.drop.f4.drop.f4.drop.f4.drop.f4.drop, ?_⟩
    refine hq [5] F s35.drop.drop.f4.drop.f4.drop.f4.drop.f4.drop.f4.drop (QI.op rfl (fun _ hC => CG (i := 26) Cp rfl rfl (by decide)) rfl <| QI.nil) (by kernel_rfl) fun _ F => ?_
    refine ho 6 rfl (by kernel_rfl) ?_
    refine Cm (nn := Bm) (T := AD) (qs := [A8 g24 224 [v2j], Sl AD v2j ([(⟨x0.kind, x0.t⟩ : A5)] : List A5), A8 g25 142 [clo 214 [jP g23]], A8 g23 47 [v2k], Sl Ty.u8 v2k ([(4 : UInt8)] : List UInt8)]) (q1 := []) (t := .fixed ([(⟨x0.kind, x0.t⟩ : A5)] : List A5) (.const ([(4 : UInt8)] : List UInt8))) F s35.f10.f7.f9.f10.f4.f10.f6 rfl rfl Cr rfl rfl rfl (.inl rfl) (fun _ _ h => SL.De (n := Bm) rfl (SL.C3 (c := 214) (d := 203) (s := 204) (t := 47) rfl h.f4.f4).f3.f3.f3) fun v2m w2u _ F s36 => gw 1 F rfl fun _ F => ⟨s36.drop.drop, ?_⟩
    refine CP (by kernel_rfl) ?_
    refine ge 2 F rfl fun _ F => Cq Bq s36.drop.drop ?_
    refine hq [0] F s36.drew.drop.drop (QI.ld m0 rfl <| QI.nil) (by kernel_rfl) fun _ F => ?_
    refine CJ [0, 1, 2, 3] (fun a w_ => ∃ v2n : Value, ∃ g26 : Nat, ∃ v2o : Value, Fr a 162 [(0, jP g9), (1, jP g0), (3, jP g2), (5, jP g4), (6, jP g5), (129, v2n), (131, clo 214 [jP g26])] ∧ SL w [] w_ [A8 g2 253 [jI x2.kind, jU (x2.t.toNat : Int)], A8 g1 253 [jI x1.kind, jU (x1.t.toNat : Int)], A8 g0 253 [jI x0.kind, jU (x0.t.toNat : Int)], A8 g9 249 (List.replicate 34 .nilFunc), A8 g5 249 v2m, Sl AD v2n ([(⟨x2.kind, x2.t⟩ : A5)] : List A5), Sl Ty.u8 v2o ([(1 : UInt8)] : List UInt8), A8 g26 47 [v2o], I0 Bm AD 34 v2m (NS x0 x1 x2) [[A8 g4 142 [clo 214 [jP g3]], A8 g3 47 [.slice none 0 0]], [Sl AD v0 ([(⟨x0.kind, x0.t⟩ : A5), (⟨x0.kind, x0.t⟩ : A5)] : List A5)], [A8 g3 47 [.slice none 0 0]]]]) ?_ fun hD0 => ?_
    ·rintro a w_ ⟨v2n, g26, v2o, F, s37⟩
     refine ho 4 rfl (by kernel_rfl) ?_
     refine As (args := [.tmp 129, .tmp 131]) F Dc rfl (Ce (Ag (fO s37 m5)) rfl) rfl fun v2p w2v _ h2e F => ?_
     obtain ⟨g27, g28, rfl, h2f⟩ := h2e
     have s38 := s37.add h2f
     refine gw 1 F rfl fun _ F => ⟨s38.drop.drop.f4.drop.f4.drop.f4.drop.f4.drop.f4.drop, ?_⟩
     refine hq [5] F s38.drop.drop.f4.drop.f4.drop.f4.drop.f4.drop.f4.drop (QI.op rfl (fun _ hC => CG (i := 27) Cp rfl rfl (by decide)) rfl <| QI.nil) (by kernel_rfl) fun _ F => ?_
     refine ho 6 rfl (by kernel_rfl) ?_
     refine Cm (nn := Bm) (T := AD) (qs := [A8 g27 224 [v2n], Sl AD v2n ([(⟨x2.kind, x2.t⟩ : A5)] : List A5), A8 g28 142 [clo 214 [jP g26]], A8 g26 47 [v2o], Sl Ty.u8 v2o ([(1 : UInt8)] : List UInt8)]) (q1 := []) (t := .fixed ([(⟨x2.kind, x2.t⟩ : A5)] : List A5) (.const ([(1 : UInt8)] : List UInt8))) F s38.f10.f7.f9.f10.f4.f10.f6 rfl rfl Cr rfl rfl rfl (.inl rfl) (fun _ _ h => SL.De (n := Bm) rfl (SL.C3 (c := 214) (d := 203) (s := 204) (t := 47) rfl h.f4.f4).f3.f3.f3) fun v2q w2w _ F s39 => gw 1 F rfl fun _ F => ⟨s39.drop.drop, ?_⟩
     refine CP (by kernel_rfl) ?_
     refine ge 2 F rfl fun _ F => Cq Bq s39.drop.drop ?_
     refine hq [0, 1] F s39.drew.drop.drop (QI.ld m0 rfl <| QI.ld m2 rfl <| QI.nil) (by kernel_rfl) fun _ F => ?_
     refine CJ [0, 1, 2, 3, 4] (fun a w_ => ∃ v2r : Value, ∃ g29 : Nat, ∃ v2s : Value, Fr a 162 [(0, jP g9), (1, jP g0), (3, jP g2), (5, jP g4), (6, jP g5), (136, v2r), (138, clo 214 [jP g29])] ∧ SL w [] w_ [A8 g2 253 [jI x2.kind, jU (x2.t.toNat : Int)], A8 g1 253 [jI x1.kind, jU (x1.t.toNat : Int)], A8 g0 253 [jI x0.kind, jU (x0.t.toNat : Int)], A8 g9 249 (List.replicate 34 .nilFunc), A8 g5 249 v2q, Sl AD v2r ([(⟨x2.kind, x2.t⟩ : A5), (⟨x0.kind, x0.t⟩ : A5)] : List A5), Sl Ty.u8 v2s ([(1 : UInt8)] : List UInt8), A8 g29 47 [v2s], I0 Bm AD 34 v2q (Oc x0 x1 x2) [[A8 g4 142 [clo 214 [jP g3]], A8 g3 47 [.slice none 0 0]], [Sl AD v0 ([(⟨x0.kind, x0.t⟩ : A5), (⟨x0.kind, x0.t⟩ : A5)] : List A5)], [A8 g3 47 [.slice none 0 0]]]]) ?_ fun hD0 => ?_
     ·rintro a w_ ⟨v2r, g29, v2s, F, s3a⟩
      refine ho 5 rfl (by kernel_rfl) ?_
      refine As (args := [.tmp 136, .tmp 138]) F Dc rfl (Ce (Ag (fO s3a m5)) rfl) rfl fun v2t w2x _ h2g F => ?_
      obtain ⟨g2a, g2b, rfl, h2h⟩ := h2g
      have s3b := s3a.add h2h
      refine gw 1 F rfl fun _ F => ⟨s3b.drop.drop.f4.drop.f4.drop.f4.drop.f4.drop.f4.drop, ?_⟩
      refine hq [6] F s3b.drop.drop.f4.drop.f4.drop.f4.drop.f4.drop.f4.drop (QI.op rfl (fun _ hC => CG (i := 28) Cp rfl rfl (by decide)) rfl <| QI.nil) (by kernel_rfl) fun _ F => ?_
      refine ho 7 rfl (by kernel_rfl) ?_
      refine Cm (nn := Bm) (T := AD) (qs := [A8 g2a 224 [v2r], Sl AD v2r ([(⟨x2.kind, x2.t⟩ : A5), (⟨x0.kind, x0.t⟩ : A5)] : List A5), A8 g2b 142 [clo 214 [jP g29]], A8 g29 47 [v2s], Sl Ty.u8 v2s ([(1 : UInt8)] : List UInt8)]) (q1 := []) (t := .fixed ([(⟨x2.kind, x2.t⟩ : A5), (⟨x0.kind, x0.t⟩ : A5)] : List A5) (.const ([(1 : UInt8)] : List UInt8))) F s3b.f10.f7.f9.f10.f4.f10.f6 rfl rfl Cr rfl rfl rfl (.inl rfl) (fun _ _ h => SL.De (n := Bm) rfl (SL.C3 (c := 214) (d := 203) (s := 204) (t := 47) rfl h.f4.f4).f3.f3.f3) fun v2u w2y _ F s3c => gw 1 F rfl fun _ F => ⟨s3c.drop.drop, ?_⟩
      refine CP (by kernel_rfl) ?_
      refine ge 3 F rfl fun _ F => AG F s3c m2 0 rfl fun _ F => AG F s3c m4 0 rfl fun _ F => AG F s3c m4 0 rfl fun _ F => ?_
      refine Ae (parts := [(0, .tmp 141), (1, .tmp 142), (2, .tmp 143)]) BZ ([(⟨x2.kind, x2.t⟩ : A5), (⟨x0.kind, x0.t⟩ : A5), (⟨x0.kind, x0.t⟩ : A5)] : List A5) F s3c Cv rfl (by decide) rfl rfl rfl (by simp [Value.cells]) rfl rfl rfl fun v2v w2z _ F s3d => ?_
      refine gx F (An VU rfl (SL.Yb s3d m2 m0 m0 rfl)) 0 rfl rfl fun _ F => As (args := [.tmp 144, .tmp 145]) F Dc rfl (Ce (Ag (fO s3d m0)) rfl) rfl fun v2w w30 _ h2i F => ?_
      obtain ⟨g2c, g2d, rfl, h2j⟩ := h2i
      have s3e := s3d.add h2j
      refine gx F (CG (i := 29) Cp rfl rfl (by decide)) 0 rfl rfl fun _ F => ?_
      refine Cm (nn := Bm) (T := AD) (qs := [A8 g2c 224 [v2v], Sl AD v2v ([(⟨x2.kind, x2.t⟩ : A5), (⟨x0.kind, x0.t⟩ : A5), (⟨x0.kind, x0.t⟩ : A5)] : List A5), A8 g2d 142 [clo 214 [jP g3]]]) (q1 := [A8 g3 47 [.slice none 0 0]]) (t := .fixed ([(⟨x2.kind, x2.t⟩ : A5), (⟨x0.kind, x0.t⟩ : A5), (⟨x0.kind, x0.t⟩ : A5)] : List A5) (.const [])) F s3e.f4.f4.f2.f4.f4 rfl rfl Cr rfl rfl rfl (.inr m2) (fun _ _ h => SL.De (n := Bm) rfl (SL.C3 (c := 214) (d := 203) (s := 204) (t := 47) rfl (SL.BI (T := Ty.u8) h).f4).f3.f3.f3) fun v2x w31 _ F s3f => gw 1 F rfl fun _ F => ?_
      have F := F.sub (m' := [(0, jP g9), (1, jP g0), (5, jP g4), (6, jP g5)]) ⟨rfl, rfl, rfl, rfl, trivial⟩
      clear F
      refine ge 3 F rfl fun _ F => gx F (Al (vs := [jI 2]) Eo Io rfl (cs := [jI 2, jU 0]) (rfl)) 0 rfl rfl fun _ F => ?_
      refine Ae (parts := [(0, .tmp 148)]) BZ ([(⟨2, 0⟩ : A5)] : List A5) F s3f Cv rfl (by decide) rfl rfl rfl (by simp [Value.cells]) rfl rfl rfl fun v2y w32 _ F s3g => ?_
      refine As (args := [.tmp 149, .const (.bool true)]) F TL rfl (N3 (Ag (fO s3g m0)) rfl) rfl fun v2z w33 _ h2k F => ?_
      obtain ⟨g2e, g2f, rfl, h2l⟩ := h2k
      have s3h := s3g.add h2l
      refine gx F (CG (i := 30) Cp rfl rfl (by decide)) 0 rfl rfl fun _ F => ?_
      refine Cm (nn := Bm) (T := AD) (qs := [A8 g2f 4 [.bool true], A8 g2e 224 [v2y], Sl AD v2y ([(⟨2, 0⟩ : A5)] : List A5)]) (q1 := []) (t := .classed ([(⟨2, 0⟩ : A5)] : List A5) true) F s3h.f4.f4.f4.f4.f4 rfl rfl Cr rfl rfl rfl (.inl rfl) (fun _ _ h => SL.QZ (n := Bm) rfl h.f2.f2.f2) fun v30 w34 _ F s3i => gw 1 F rfl fun _ F => ?_
      have F := F.sub (m' := [(0, jP g9), (1, jP g0), (5, jP g4), (6, jP g5)]) ⟨rfl, rfl, rfl, rfl, trivial⟩
      clear F
      refine ge 3 F rfl fun _ F => gx F (Al (vs := [jI 2]) Eo Io rfl (cs := [jI 2, jU 0]) (rfl)) 0 rfl rfl fun _ F => ?_
      refine Ae (parts := [(0, .tmp 152)]) BZ ([(⟨2, 0⟩ : A5)] : List A5) F s3i Cv rfl (by decide) rfl rfl rfl (by simp [Value.cells]) rfl rfl rfl fun v31 w35 _ F s3j => ?_
      refine As (args := [.tmp 153, .const (.bool false)]) F TL rfl (N3 (Ag (fO s3j m0)) rfl) rfl fun v32 w36 _ h2m F => ?_
      obtain ⟨g2g, g2h, rfl, h2n⟩ := h2m
      have s3k := s3j.add h2n
      refine gx F (CG (i := 31) Cp rfl rfl (by decide)) 0 rfl rfl fun _ F => ?_
      refine Cm (nn := Bm) (T := AD) (qs := [A8 g2h 4 [.bool false], A8 g2g 224 [v31], Sl AD v31 ([(⟨2, 0⟩ : A5)] : List A5)]) (q1 := []) (t := .classed ([(⟨2, 0⟩ : A5)] : List A5) false) F s3k.f4.f4.f4.f4.f4 rfl rfl Cr rfl rfl rfl (.inl rfl) (fun _ _ h => SL.QZ (n := Bm) rfl h.f2.f2.f2) fun v33 w37 _ F s3l => gw 1 F rfl fun _ F => ?_
      have F := F.sub (m' := [(0, jP g9), (1, jP g0), (5, jP g4), (6, jP g5)]) ⟨rfl, rfl, rfl, rfl, trivial⟩
      clear F
      refine ge 3 F rfl fun _ F => AG F s3l m4 0 rfl fun _ F => ?_
      refine Ae (parts := [(0, .tmp 156)]) BZ ([(⟨x0.kind, x0.t⟩ : A5)] : List A5) F s3l Cv rfl (by decide) rfl rfl rfl (by simp [Value.cells]) rfl rfl rfl fun v34 w38 _ F s3m => ?_
      refine gx F (An VU rfl (SL.Yb s3m m2 m0 m0 rfl)) 0 rfl rfl fun _ F => As (args := [.tmp 157, .tmp 158]) F Dc rfl (Ce (Ag (fO s3m m0)) rfl) rfl fun v35 w39 _ h2o F => ?_
      obtain ⟨g2i, g2j, rfl, h2p⟩ := h2o
      have s3n := s3m.add h2p
      refine gx F (CG (i := 33) Cp rfl rfl (by decide)) 0 rfl rfl fun _ F => ?_
      refine Cm (nn := Bm) (T := AD) (qs := [A8 g2i 224 [v34], Sl AD v34 ([(⟨x0.kind, x0.t⟩ : A5)] : List A5), A8 g2j 142 [clo 214 [jP g3]]]) (q1 := [A8 g3 47 [.slice none 0 0]]) (t := .fixed ([(⟨x0.kind, x0.t⟩ : A5)] : List A5) (.const [])) F s3n.f4.f4.f2.f4.f4 rfl rfl Cr rfl rfl rfl (.inr m2) (fun _ _ h => SL.De (n := Bm) rfl (SL.C3 (c := 214) (d := 203) (s := 204) (t := 47) rfl (SL.BI (T := Ty.u8) h).f4).f3.f3.f3) fun v36 w3a _ F s3o => gw 1 F rfl fun _ F => ?_
      have F := F.sub (m' := [(0, jP g9), (6, jP g5)]) ⟨rfl, rfl, trivial⟩
      clear F
      refine ge 3 F rfl fun _ F => gx F (Av Wo rfl (s3o.Dk m0 (o := 0) (ds := v36) (fun j u hu => by rw [Nat.zero_add]; exact hu)) (SL.Qr s3o m1).1.1) 0 rfl rfl fun _ F => ?_
      have h2q := SL.Qr s3o m1
      refine AP (ds := v36) F s3o.f5 rfl rfl (by rw [h2q.1.1]; exact Adp) h2q.1.2 (by rw [h2q.1.1]; rfl) fun w3b _ F s3p => ?_
      refine gw 1 F rfl fun _ F => ?_
      have F := F.sub (m' := [(0, jP g9)]) ⟨rfl, trivial⟩
      clear F
      obtain rfl := SK H
      refine ge 2 F rfl fun _ F => ?_
      refine Ak (rs := [.cell 0 249]) (vs := [.agg ⟨v36⟩]) F (by rfl) ⟨_, _, rfl, Am s3p m0 rfl Wo (SL.Qr s3p m2).1.1, rfl⟩ ⟨_, rfl, ⟨_, rfl, (SL.Qr s3p m2).1.1, s3p.tk 0 rfl, fun k t ht => (SL.Qr s3p m2).2 k t ht⟩⟩
     refine CJ [0, 1, 2, 3] (fun a w_ => ∃ v2r : Value, ∃ v2s : Value, Fr a 162 [(0, jP g9), (1, jP g0), (3, jP g2), (5, jP g4), (6, jP g5), (136, v2r), (137, v2s)] ∧ SL w [] w_ [A8 g2 253 [jI x2.kind, jU (x2.t.toNat : Int)], A8 g1 253 [jI x1.kind, jU (x1.t.toNat : Int)], A8 g0 253 [jI x0.kind, jU (x0.t.toNat : Int)], A8 g9 249 (List.replicate 34 .nilFunc), A8 g5 249 v2q, Sl AD v2r ([(⟨x2.kind, x2.t⟩ : A5), (⟨x0.kind, x0.t⟩ : A5)] : List A5), Sl Ty.u8 v2s ([(1 : UInt8)] : List UInt8), I0 Bm AD 34 v2q (Oc x0 x1 x2) [[A8 g4 142 [clo 214 [jP g3]], A8 g3 47 [.slice none 0 0]], [Sl AD v0 ([(⟨x0.kind, x0.t⟩ : A5), (⟨x0.kind, x0.t⟩ : A5)] : List A5)], [A8 g3 47 [.slice none 0 0]]]]) ?_ fun hD1 => ?_
     ·rintro a w_ ⟨v2r, v2s, F, s3q⟩
      refine ho 4 rfl (by kernel_rfl) ?_
      refine As (args := [.tmp 137]) F CQ rfl (BW (Ag (fO s3q m6))) rfl fun v37 w3c _ h2r F => ?_
      obtain ⟨g29, rfl, h2s⟩ := h2r
      have s3r := s3q.add h2s
      exact gw 1 F rfl fun _ F => ⟨s3r.drop.f4.drop.f4.drop.f4.drop.f4.drop, BJ hD0 ⟨v2r, g29, v2s, F.sb, s3r.f8.f1.f8.f8.f8.f8.f8.f8.f8⟩ (by kernel_rfl)⟩
     refine E5 2 3 rfl rfl (by kernel_rfl) ?_ ?_
     ·refine Ae (parts := [(0, .tmp 134), (1, .tmp 135)]) BZ ([(⟨x2.kind, x2.t⟩ : A5), (⟨x0.kind, x0.t⟩ : A5)] : List A5) F s39.drew Cv rfl (by decide) rfl rfl rfl (by simp [Value.cells]) rfl rfl rfl fun v2r w3d _ F s3s => ?_
      refine gw 1 F rfl fun _ F => ⟨s3s.drop.drop.drop, ?_⟩
      refine ho 3 rfl (by kernel_rfl) ?_
      refine Ae (parts := [(0, .const (jU 1))]) Flat.u8 ([(1 : UInt8)] : List UInt8) F s3s Br rfl (by decide) rfl rfl rfl (by simp [Value.cells]) rfl rfl rfl fun v2s w3e _ F s3t => ?_
      exact gw 1 F rfl fun _ F => ⟨s3t.drop.drop.drop.drop, BJ hD1 ⟨v2r, v2s, F.sb, s3t.f3.f1.f2.f3.f7.f7.f7.f7⟩ (by kernel_rfl)⟩
     refine Ae (parts := [(0, .const (jU 1))]) Flat.u8 ([(1 : UInt8)] : List UInt8) F s39.drew Br rfl (by decide) rfl rfl rfl (by simp [Value.cells]) rfl rfl rfl fun v2s w3e _ F s3t => ?_
     refine gw 1 F rfl fun _ F => ⟨s3t.drop.drop.drop, ?_⟩
     refine E5 2 4 rfl rfl (by kernel_rfl) ?_ ?_
     ·refine Ae (parts := [(0, .tmp 134), (1, .tmp 135)]) BZ ([(⟨x2.kind, x2.t⟩ : A5), (⟨x0.kind, x0.t⟩ : A5)] : List A5) F s3t Cv rfl (by decide) rfl rfl rfl (by simp [Value.cells]) rfl rfl rfl fun v2r w3d _ F s3s => ?_
      exact gw 1 F rfl fun _ F => ⟨s3s.drop.drop.drop.drop, BJ hD1 ⟨v2r, v2s, F.sb, s3s.f3.f2.f2.f3.f7.f7.f7.f7⟩ (by kernel_rfl)⟩
     refine As (args := [.tmp 137]) F CQ rfl (BW (Ag (fO s3t m0))) rfl fun v37 w3c _ h2r F => ?_
     obtain ⟨g29, rfl, h2s⟩ := h2r
     have s3r := s3t.add h2s
     refine gw 1 F rfl fun _ F => ⟨s3r.drop.drop.drop.drop, ?_⟩
     refine ho 2 rfl (by kernel_rfl) ?_
     refine Ae (parts := [(0, .tmp 134), (1, .tmp 135)]) BZ ([(⟨x2.kind, x2.t⟩ : A5), (⟨x0.kind, x0.t⟩ : A5)] : List A5) F s3r Cv rfl (by decide) rfl rfl rfl (by simp [Value.cells]) rfl rfl rfl fun v2r w3d _ F s3s => ?_
     exact gw 1 F rfl fun _ F => ⟨s3s.drop.drop.drop.drop.drop, BJ hD0 ⟨v2r, g29, v2s, F.sb, s3s.f4.f2.f3.f3.f4.f8.f8.f8.f8⟩ (by kernel_rfl)⟩
    refine CJ [0, 1, 2] (fun a w_ => ∃ v2n : Value, ∃ v2o : Value, Fr a 162 [(0, jP g9), (1, jP g0), (3, jP g2), (5, jP g4), (6, jP g5), (129, v2n), (130, v2o)] ∧ SL w [] w_ [A8 g2 253 [jI x2.kind, jU (x2.t.toNat : Int)], A8 g1 253 [jI x1.kind, jU (x1.t.toNat : Int)], A8 g0 253 [jI x0.kind, jU (x0.t.toNat : Int)], A8 g9 249 (List.replicate 34 .nilFunc), A8 g5 249 v2m, Sl AD v2n ([(⟨x2.kind, x2.t⟩ : A5)] : List A5), Sl Ty.u8 v2o ([(1 : UInt8)] : List UInt8), I0 Bm AD 34 v2m (NS x0 x1 x2) [[A8 g4 142 [clo 214 [jP g3]], A8 g3 47 [.slice none 0 0]], [Sl AD v0 ([(⟨x0.kind, x0.t⟩ : A5), (⟨x0.kind, x0.t⟩ : A5)] : List A5)], [A8 g3 47 [.slice none 0 0]]]]) ?_ fun hD1 => ?_
    ·rintro a w_ ⟨v2n, v2o, F, s3u⟩
     refine ho 3 rfl (by kernel_rfl) ?_
     refine As (args := [.tmp 130]) F CQ rfl (BW (Ag (fO s3u m6))) rfl fun v38 w3f _ h2t F => ?_
     obtain ⟨g26, rfl, h2u⟩ := h2t
     have s3v := s3u.add h2u
     exact gw 1 F rfl fun _ F => ⟨s3v.drop.f4.drop.f4.drop.f4.drop.f4.drop, BJ hD0 ⟨v2n, g26, v2o, F.sb, s3v.f8.f1.f8.f8.f8.f8.f8.f8.f8⟩ (by kernel_rfl)⟩
    refine E5 1 2 rfl rfl (by kernel_rfl) ?_ ?_
    ·refine Ae (parts := [(0, .tmp 128)]) BZ ([(⟨x2.kind, x2.t⟩ : A5)] : List A5) F s36.drew Cv rfl (by decide) rfl rfl rfl (by simp [Value.cells]) rfl rfl rfl fun v2n w3g _ F s3w => ?_
     refine gw 1 F rfl fun _ F => ⟨s3w.drop.drop.drop, ?_⟩
     refine ho 2 rfl (by kernel_rfl) ?_
     refine Ae (parts := [(0, .const (jU 1))]) Flat.u8 ([(1 : UInt8)] : List UInt8) F s3w Br rfl (by decide) rfl rfl rfl (by simp [Value.cells]) rfl rfl rfl fun v2o w3h _ F s3x => ?_
     exact gw 1 F rfl fun _ F => ⟨s3x.drop.drop.drop.drop, BJ hD1 ⟨v2n, v2o, F.sb, s3x.f3.f1.f2.f3.f7.f7.f7.f7⟩ (by kernel_rfl)⟩
    refine Ae (parts := [(0, .const (jU 1))]) Flat.u8 ([(1 : UInt8)] : List UInt8) F s36.drew Br rfl (by decide) rfl rfl rfl (by simp [Value.cells]) rfl rfl rfl fun v2o w3h _ F s3x => ?_
    refine gw 1 F rfl fun _ F => ⟨s3x.drop.drop.drop, ?_⟩
    refine E5 1 3 rfl rfl (by kernel_rfl) ?_ ?_
    ·refine Ae (parts := [(0, .tmp 128)]) BZ ([(⟨x2.kind, x2.t⟩ : A5)] : List A5) F s3x Cv rfl (by decide) rfl rfl rfl (by simp [Value.cells]) rfl rfl rfl fun v2n w3g _ F s3w => ?_
     exact gw 1 F rfl fun _ F => ⟨s3w.drop.drop.drop.drop, BJ hD1 ⟨v2n, v2o, F.sb, s3w.f3.f2.f2.f3.f7.f7.f7.f7⟩ (by kernel_rfl)⟩
    refine As (args := [.tmp 130]) F CQ rfl (BW (Ag (fO s3x m0))) rfl fun v38 w3f _ h2t F => ?_
    obtain ⟨g26, rfl, h2u⟩ := h2t
    have s3v := s3x.add h2u
    refine gw 1 F rfl fun _ F => ⟨s3v.drop.drop.drop.drop, ?_⟩
    refine ho 1 rfl (by kernel_rfl) ?_
    refine Ae (parts := [(0, .tmp 128)]) BZ ([(⟨x2.kind, x2.t⟩ : A5)] : List A5) F s3v Cv rfl (by decide) rfl rfl rfl (by simp [Value.cells]) rfl rfl rfl fun v2n w3g _ F s3w => ?_
    exact gw 1 F rfl fun _ F => ⟨s3w.drop.drop.drop.drop.drop, BJ hD0 ⟨v2n, g26, v2o, F.sb, s3w.f4.f2.f3.f3.f4.f8.f8.f8.f8⟩ (by kernel_rfl)⟩
   refine CJ [0, 1, 2] (fun a w_ => ∃ v2j : Value, ∃ v2k : Value, Fr a 162 [(0, jP g9), (1, jP g0), (3, jP g2), (5, jP g4), (6, jP g5), (123, v2j), (124, v2k)] ∧ SL w [] w_ [A8 g2 253 [jI x2.kind, jU (x2.t.toNat : Int)], A8 g1 253 [jI x1.kind, jU (x1.t.toNat : Int)], A8 g0 253 [jI x0.kind, jU (x0.t.toNat : Int)], A8 g9 249 (List.replicate 34 .nilFunc), A8 g5 249 v2i, Sl AD v2j ([(⟨x0.kind, x0.t⟩ : A5)] : List A5), Sl Ty.u8 v2k ([(4 : UInt8)] : List UInt8), I0 Bm AD 34 v2i (NL x0 x1 x2) [[A8 g4 142 [clo 214 [jP g3]], A8 g3 47 [.slice none 0 0]], [Sl AD v0 ([(⟨x0.kind, x0.t⟩ : A5), (⟨x0.kind, x0.t⟩ : A5)] : List A5)], [A8 g3 47 [.slice none 0 0]]]]) ?_ fun hD1 => ?_
   ·rintro a w_ ⟨v2j, v2k, F, s3y⟩
    refine ho 3 rfl (by kernel_rfl) ?_
    refine As (args := [.tmp 124]) F CQ rfl (BW (Ag (fO s3y m6))) rfl fun v39 w3i _ h2v F => ?_
    obtain ⟨g23, rfl, h2w⟩ := h2v
    have s3z := s3y.add h2w
    exact gw 1 F rfl fun _ F => ⟨s3z.drop.f4.drop.f4.drop.f4.drop.f4.drop, BJ hD0 ⟨v2j, g23, v2k, F.sb, s3z.f8.f1.f8.f8.f8.f8.f8.f8.f8⟩ (by kernel_rfl)⟩
   refine E5 1 2 rfl rfl (by kernel_rfl) ?_ ?_
   ·refine Ae (parts := [(0, .tmp 122)]) BZ ([(⟨x0.kind, x0.t⟩ : A5)] : List A5) F s33.drew Cv rfl (by decide) rfl rfl rfl (by simp [Value.cells]) rfl rfl rfl fun v2j w3j _ F s40 => ?_
    refine gw 1 F rfl fun _ F => ⟨s40.drop.drop.drop, ?_⟩
    refine ho 2 rfl (by kernel_rfl) ?_
    refine Ae (parts := [(0, .const (jU 4))]) Flat.u8 ([(4 : UInt8)] : List UInt8) F s40 Br rfl (by decide) rfl rfl rfl (by simp [Value.cells]) rfl rfl rfl fun v2k w3k _ F s41 => ?_
    exact gw 1 F rfl fun _ F => ⟨s41.drop.drop.drop.drop, BJ hD1 ⟨v2j, v2k, F.sb, s41.f3.f1.f2.f3.f7.f7.f7.f7⟩ (by kernel_rfl)⟩
   refine Ae (parts := [(0, .const (jU 4))]) Flat.u8 ([(4 : UInt8)] : List UInt8) F s33.drew Br rfl (by decide) rfl rfl rfl (by simp [Value.cells]) rfl rfl rfl fun v2k w3k _ F s41 => ?_
   refine gw 1 F rfl fun _ F => ⟨s41.drop.drop.drop, ?_⟩
   refine E5 1 3 rfl rfl (by kernel_rfl) ?_ ?_
   ·refine Ae (parts := [(0, .tmp 122)]) BZ ([(⟨x0.kind, x0.t⟩ : A5)] : List A5) F s41 Cv rfl (by decide) rfl rfl rfl (by simp [Value.cells]) rfl rfl rfl fun v2j w3j _ F s40 => ?_
    exact gw 1 F rfl fun _ F => ⟨s40.drop.drop.drop.drop, BJ hD1 ⟨v2j, v2k, F.sb, s40.f3.f2.f2.f3.f7.f7.f7.f7⟩ (by kernel_rfl)⟩
   refine As (args := [.tmp 124]) F CQ rfl (BW (Ag (fO s41 m0))) rfl fun v39 w3i _ h2v F => ?_
   obtain ⟨g23, rfl, h2w⟩ := h2v
   have s3z := s41.add h2w
   refine gw 1 F rfl fun _ F => ⟨s3z.drop.drop.drop.drop, ?_⟩
   refine ho 1 rfl (by kernel_rfl) ?_
   refine Ae (parts := [(0, .tmp 122)]) BZ ([(⟨x0.kind, x0.t⟩ : A5)] : List A5) F s3z Cv rfl (by decide) rfl rfl rfl (by simp [Value.cells]) rfl rfl rfl fun v2j w3j _ F s40 => ?_
   exact gw 1 F rfl fun _ F => ⟨s40.drop.drop.drop.drop.drop, BJ hD0 ⟨v2j, g23, v2k, F.sb, s40.f4.f2.f3.f3.f4.f8.f8.f8.f8⟩ (by kernel_rfl)⟩
  refine CJ [0, 1, 2] (fun a w_ => ∃ v1z : Value, ∃ v20 : Value, Fr a 162 [(0, jP g9), (1, jP g0), (2, jP g1), (3, jP g2), (5, jP g4), (6, jP g5), (96, v1z), (97, v20)] ∧ SL w [] w_ [A8 g4 142 [clo 214 [jP g3]], A8 g2 253 [jI x2.kind, jU (x2.t.toNat : Int)], A8 g1 253 [jI x1.kind, jU (x1.t.toNat : Int)], A8 g0 253 [jI x0.kind, jU (x0.t.toNat : Int)], A8 g9 249 (List.replicate 34 .nilFunc), Sl AD v1z ([(⟨x1.kind, x1.t⟩ : A5)] : List A5), Sl Ty.u8 v20 ([(2 : UInt8)] : List UInt8), A8 g5 249 v1y, I0 Bm AD 34 v1y (NQ x0 x1 x2) [[Sl AD v0 ([(⟨x0.kind, x0.t⟩ : A5), (⟨x0.kind, x0.t⟩ : A5)] : List A5)], [A8 g3 47 [.slice none 0 0]]]]) ?_ fun hD1 => ?_
  ·rintro a w_ ⟨v1z, v20, F, s42⟩
   refine ho 3 rfl (by kernel_rfl) ?_
   refine As (args := [.tmp 97]) F CQ rfl (BW (Ag (fO s42 m6))) rfl fun v3a w3l _ h2x F => ?_
   obtain ⟨g1r, rfl, h2y⟩ := h2x
   have s43 := s42.add h2y
   exact gw 1 F rfl fun _ F => ⟨s43.drop.f5.drop.f5.drop.f5.drop.f5.drop, BJ hD0 ⟨v1z, g1r, v20, F.sb, s43.f9.f9.f2.f9.f9.f9.f9.f9.f9.f9⟩ (by kernel_rfl)⟩
  refine E5 1 2 rfl rfl (by kernel_rfl) ?_ ?_
  ·refine Ae (parts := [(0, .tmp 95)]) BZ ([(⟨x1.kind, x1.t⟩ : A5)] : List A5) F s2j.drew Cv rfl (by decide) rfl rfl rfl (by simp [Value.cells]) rfl rfl rfl fun v1z w3m _ F s44 => ?_
   refine gw 1 F rfl fun _ F => ⟨s44.drop.drop.drop, ?_⟩
   refine ho 2 rfl (by kernel_rfl) ?_
   refine Ae (parts := [(0, .const (jU 2))]) Flat.u8 ([(2 : UInt8)] : List UInt8) F s44 Br rfl (by decide) rfl rfl rfl (by simp [Value.cells]) rfl rfl rfl fun v20 w3n _ F s45 => ?_
   exact gw 1 F rfl fun _ F => ⟨s45.drop.drop.drop.drop, BJ hD1 ⟨v1z, v20, F.sb, s45.f3.f3.f2.f3.f8.f8.f8.f8.f8⟩ (by kernel_rfl)⟩
  refine Ae (parts := [(0, .const (jU 2))]) Flat.u8 ([(2 : UInt8)] : List UInt8) F s2j.drew Br rfl (by decide) rfl rfl rfl (by simp [Value.cells]) rfl rfl rfl fun v20 w3n _ F s45 => ?_
  refine gw 1 F rfl fun _ F => ⟨s45.drop.drop.drop, ?_⟩
  refine E5 1 3 rfl rfl (by kernel_rfl) ?_ ?_
  ·refine Ae (parts := [(0, .tmp 95)]) BZ ([(⟨x1.kind, x1.t⟩ : A5)] : List A5) F s45 Cv rfl (by decide) rfl rfl rfl (by simp [Value.cells]) rfl rfl rfl fun v1z w3m _ F s44 => ?_
   exact gw 1 F rfl fun _ F => ⟨s44.drop.drop.drop.drop, BJ hD1 ⟨v1z, v20, F.sb, s44.f3.f3.f3.f3.f8.f8.f8.f8.f8⟩ (by kernel_rfl)⟩
  refine As (args := [.tmp 97]) F CQ rfl (BW (Ag (fO s45 m0))) rfl fun v3a w3l _ h2x F => ?_
  obtain ⟨g1r, rfl, h2y⟩ := h2x
  have s43 := s45.add h2y
  refine gw 1 F rfl fun _ F => ⟨s43.drop.drop.drop.drop, ?_⟩
  refine ho 1 rfl (by kernel_rfl) ?_
  refine Ae (parts := [(0, .tmp 95)]) BZ ([(⟨x1.kind, x1.t⟩ : A5)] : List A5) F s43 Cv rfl (by decide) rfl rfl rfl (by simp [Value.cells]) rfl rfl rfl fun v1z w3m _ F s44 => ?_
  exact gw 1 F rfl fun _ F => ⟨s44.drop.drop.drop.drop.drop, BJ hD0 ⟨v1z, g1r, v20, F.sb, s44.f4.f4.f3.f4.f4.f9.f9.f9.f9.f9⟩ (by kernel_rfl)⟩
 refine CJ [0, 1, 2] (fun a w_ => ∃ v1m : Value, ∃ v1n : Value, Fr a 162 [(0, jP g9), (1, jP g0), (2, jP g1), (3, jP g2), (4, v0), (5, jP g4), (6, jP g5), (78, v1m), (79, v1n)] ∧ SL w [] w_ [A8 g12 5 [jU 9, jU 10, jU 11, jU 12, jU 13], A8 g4 142 [clo 214 [jP g3]], A8 g2 253 [jI x2.kind, jU (x2.t.toNat : Int)], A8 g1 253 [jI x1.kind, jU (x1.t.toNat : Int)], A8 g0 253 [jI x0.kind, jU (x0.t.toNat : Int)], A8 g9 249 (List.replicate 34 .nilFunc), Sl AD v1m ([(⟨x0.kind, x0.t⟩ : A5)] : List A5), Sl Ty.u8 v1n ([(1 : UInt8)] : List UInt8), A8 g5 249 v1l, I0 Bm AD 34 v1l (NH x0 x1 x2) [[Sl AD v0 ([(⟨x0.kind, x0.t⟩ : A5), (⟨x0.kind, x0.t⟩ : A5)] : List A5)], [A8 g3 47 [.slice none 0 0]]]]) ?_ fun hD1 => ?_
 ·rintro a w_ ⟨v1m, v1n, F, s46⟩
  refine ho 3 rfl (by kernel_rfl) ?_
  refine As (args := [.tmp 79]) F CQ rfl (BW (Ag (fO s46 m7))) rfl fun v3b w3o _ h2z F => ?_
  obtain ⟨g1i, rfl, h30⟩ := h2z
  have s47 := s46.add h30
  exact gw 1 F rfl fun _ F => ⟨s47.drop.f6.drop.f6.drop.f6.drop.f6.drop, BJ hD0 ⟨v1m, g1i, v1n, F.sb, s47.f10.f10.f2.f10.f10.f10.f10.f10.f10.f10.f10⟩ (by kernel_rfl)⟩
 refine E5 1 2 rfl rfl (by kernel_rfl) ?_ ?_
 ·refine Ae (parts := [(0, .tmp 77)]) BZ ([(⟨x0.kind, x0.t⟩ : A5)] : List A5) F s27.drew Cv rfl (by decide) rfl rfl rfl (by simp [Value.cells]) rfl rfl rfl fun v1m w3p _ F s48 => ?_
  refine gw 1 F rfl fun _ F => ⟨s48.drop.drop.drop, ?_⟩
  refine ho 2 rfl (by kernel_rfl) ?_
  refine Ae (parts := [(0, .const (jU 1))]) Flat.u8 ([(1 : UInt8)] : List UInt8) F s48 Br rfl (by decide) rfl rfl rfl (by simp [Value.cells]) rfl rfl rfl fun v1n w3q _ F s49 => ?_
  exact gw 1 F rfl fun _ F => ⟨s49.drop.drop.drop.drop, BJ hD1 ⟨v1m, v1n, F.sb, s49.f3.f3.f2.f3.f9.f9.f9.f9.f9.f9⟩ (by kernel_rfl)⟩
 refine Ae (parts := [(0, .const (jU 1))]) Flat.u8 ([(1 : UInt8)] : List UInt8) F s27.drew Br rfl (by decide) rfl rfl rfl (by simp [Value.cells]) rfl rfl rfl fun v1n w3q _ F s49 => ?_
 refine gw 1 F rfl fun _ F => ⟨s49.drop.drop.drop, ?_⟩
 refine E5 1 3 rfl rfl (by kernel_rfl) ?_ ?_
 ·refine Ae (parts := [(0, .tmp 77)]) BZ ([(⟨x0.kind, x0.t⟩ : A5)] : List A5) F s49 Cv rfl (by decide) rfl rfl rfl (by simp [Value.cells]) rfl rfl rfl fun v1m w3p _ F s48 => ?_
  exact gw 1 F rfl fun _ F => ⟨s48.drop.drop.drop.drop, BJ hD1 ⟨v1m, v1n, F.sb, s48.f3.f3.f3.f3.f9.f9.f9.f9.f9.f9⟩ (by kernel_rfl)⟩
 refine As (args := [.tmp 79]) F CQ rfl (BW (Ag (fO s49 m0))) rfl fun v3b w3o _ h2z F => ?_
 obtain ⟨g1i, rfl, h30⟩ := h2z
 have s47 := s49.add h30
 refine gw 1 F rfl fun _ F => ⟨s47.drop.drop.drop.drop, ?_⟩
 refine ho 1 rfl (by kernel_rfl) ?_
 refine Ae (parts := [(0, .tmp 77)]) BZ ([(⟨x0.kind, x0.t⟩ : A5)] : List A5) F s47 Cv rfl (by decide) rfl rfl rfl (by simp [Value.cells]) rfl rfl rfl fun v1m w3p _ F s48 => ?_
 exact gw 1 F rfl fun _ F => ⟨s48.drop.drop.drop.drop.drop, BJ hD0 ⟨v1m, g1i, v1n, F.sb, s48.f4.f4.f3.f4.f4.f10.f10.f10.f10.f10.f10⟩ (by kernel_rfl)⟩
theorem Yp {w : World} {v0_0 v0_1 : Value} {a0 : AA} {a1 : A9} {r : BL × Int} (hr0_0 : Rd AB w [] v0_0 a0.Classes) (hr0_1 : Rd B8 w [] v0_1 a0.AQ) (H : P7 a0 a1 = some r) :
    Calls prog 205 #[.agg ⟨[v0_0, v0_1, jI a0.Fn]⟩, .agg ⟨[jI a1.At, jU (a1.Op.toNat : Int), jI a1.A, jI a1.B]⟩] w (B9 fun u_ w_ => ∃ u0 u1 : Value, u_ = .tuple ⟨[.agg ⟨[u0, u1]⟩, jI r.2]⟩ ∧ SL w [] w_ [Sl AD u0 r.1.takes, JK 214 203 204 47 u1 r.1.gives]) := by
 have s0 : SL w [] w [] := SL.Bt w
 refine BD func205 ntmps205 2 rfl rfl rfl fun _ F0 => ?_
 unfold P7 at H
 refine Ar F0 s0 rfl rfl rfl fun g0 w0 _ F s1 => Ar F s1 rfl rfl rfl fun g1 w1 _ F s2 => Af F s2 CC rfl rfl fun g32 w2 _ F s3 => gw 7 F rfl fun _ F => AG F s3 m1 2 rfl fun _ F => BB 13 F H (fun h0 H F => ?_) (fun h0 H F => ?_)
 ·refine gw 12 F rfl fun _ F => gx F (Al (vs := []) CC Fw rfl (cs := [.slice none 0 0, .nilFunc]) (rfl)) 0 rfl rfl fun _ F => Ai F s3 rfl rfl EL (Ab rfl (Ab rfl Ap)) (Ac rfl) fun w3 _ F s4 => ?_
  cases H
  refine gw 5 F rfl fun _ F => ?_
  refine Ak (rs := [.cell 4 226, .tmp 5]) (vs := [.agg ⟨[.slice none 0 0, .nilFunc]⟩, jI 71]) F (by rfl) ⟨_, _, rfl, Am s4 m0 rfl Em rfl, _, _, rfl, Ao rfl, rfl⟩ ⟨_, rfl, ⟨(.slice none 0 0), .nilFunc, rfl, (SL.Nn (SL.BI (T := AD) s4)).f2.drop.f2.drop.f2.drop.f1⟩⟩
 refine gw 1 F rfl fun _ F => AK F rfl rfl <| AG F s3 m1 1 rfl fun _ F => AK F rfl rfl <| AG F s3 m2 0 rfl fun _ F => AK F rfl rfl <| gx F (Ah rfl underlying108 (fR hr0_1 s3)) 4 rfl rfl fun _ F => AH F H 2 4 rfl rfl rfl (fun h1 H _ F => ?_) (fun h1 H _ F => ?_)
 ·refine gx F (Al (vs := []) CC Fw rfl (cs := [.slice none 0 0, .nilFunc]) (rfl)) 0 rfl rfl fun _ F => Ai F s3 rfl rfl EL (Ab rfl (Ab rfl Ap)) (Ac rfl) fun w4 _ F s5 => ?_
  cases H
  refine gw 5 F rfl fun _ F => ?_
  refine Ak (rs := [.cell 4 226, .tmp 5]) (vs := [.agg ⟨[.slice none 0 0, .nilFunc]⟩, jI 71]) F (by rfl) ⟨_, _, rfl, Am s5 m0 rfl Em rfl, _, _, rfl, Ao rfl, rfl⟩ ⟨_, rfl, ⟨(.slice none 0 0), .nilFunc, rfl, (SL.Nn (SL.BI (T := AD) s5)).f2.drop.f2.drop.f2.drop.f1⟩⟩
 obtain ⟨x0, h2, H⟩ := Aa H
 obtain ⟨a2, c0, G0, h3, h4, h5, h6⟩ := Rd.idx hr0_1 E2 rfl h2
 obtain ⟨v0, rfl, h7⟩ := (Ga h5 h6)
 replace h4 := h4 _ _ s3
 refine gw 1 F rfl fun _ F => AG F s3 m2 1 rfl fun _ F => AG F s3 m1 0 rfl fun _ F => gi F h3 0 rfl fun _ F => gx F (Av J1 rfl h4 rfl) 0 rfl rfl fun _ F => Af F s3 KT rfl rfl fun g2 w5 _ F s6 => Ai F s6 rfl rfl OG (Ab (Aq (fR h7 s6)) (Ab rfl Ap)) (Ac rfl) fun w6 _ F s7 => gw 11 F rfl fun _ F => AG F s7 m0 0 rfl fun _ F => ?_
 obtain ⟨o0, H0, R0⟩ := Aa H
 clear H
 refine gx F (Ah rfl underlying47 (fR h7 s7)) 3 rfl rfl fun _ F => BA (fun a w_ => ∃ v1 : Value, Fr a 53 [(4, jP g32), (6, jP g2), (7, v1)] ∧ SL w [] w_ [A8 g2 50 [v0, jU (x0.Result.toNat : Int)], A8 g32 226 [.slice none 0 0, .nilFunc], Sl AD v1 o0]) ?_ ?_
 ·have H := H0
  refine gc 1 F rfl fun _ F => Cy (IX x0) (fun s8 a w_ => ∃ v2 : Value, Fr a 53 [(4, jP g32), (6, jP g2), (7, v2), (29, v0), (30, jI (x0.Bv.length : Int)), (31, jI s8.2)] ∧ SL w [] w_ [A8 g2 50 [v0, jU (x0.Result.toNat : Int)], A8 g32 226 [.slice none 0 0, .nilFunc], Sl AD v2 s8.1]) H ?_ ?_
  ·exact ⟨(.slice none 0 0), F.sb, (SL.BI (T := AD) s7).f3.drop.f3.drop.f2.f2⟩
  intro s8 _ w7 h8 o1 H hr
  obtain ⟨v2, F, s9⟩ := h8
  replace H : IX x0 s8 = some o1 := H
  unfold IX at H
  refine gc 6 F rfl fun _ F => AH F H 6 4 rfl rfl rfl (fun h9 H _ F => ?_) (fun h9 H _ F => ?_)
  ·obtain ⟨x1, ha, H⟩ := Aa H
   obtain ⟨a3, hb, hc⟩ := HM Flat.u8 (Eb h7 s9) Br rfl ha
   refine gi F hb 0 rfl fun _ F => ?_
   obtain ⟨x2, hd, H⟩ := Aa H
   refine gx F (An BF rfl (Bn.at_ hc (o := 0) rfl)) 6 rfl rfl fun _ F => B5 F s9 (Ko hd) 0 rfl rfl rfl rfl fun w8 _ F sa => ?_
   refine Ae (parts := [(0, .tmp 37)]) BZ ([x2] : List A5) F sa Cv rfl (by decide) rfl rfl rfl (by simp [Value.cells]) rfl rfl rfl fun v3 w9 _ F sc => ?_
   obtain ⟨x3, he, H⟩ := Aa H
   obtain ⟨_, hr_⟩ := (sc.f3.BK m1)
   refine Aw BZ F sc.f3 Cv rfl rfl rfl rfl hr_ rfl rfl he rfl fun v4 wa _ F sd => ?_
   have s2463' := sd.f1.drop
   cases H
   exact gw 8 F rfl fun _ F => ⟨_, rfl, v4, F.sb, s2463'.f2.f2⟩
  cases H
  obtain rfl := hr _ rfl
  exact ⟨v2, F.sb, s9⟩
 intro _ wb hJ
 obtain ⟨v1, F, se⟩ := hJ
 have H := R0
 clear R0 H0
 refine ge 5 F rfl fun _ F => AG F se m0 3 rfl fun _ F => AH F H 3 6 rfl rfl rfl (fun hf H _ F => ?_) (fun hf H _ F => ?_)
 ·refine As (args := [.const (.slice none 0 0)]) F CQ rfl (BW rfl) rfl fun v5 wc _ hg F => ?_
  obtain ⟨g3, hh, hi⟩ := hg
  have sf := se.add hi
  have sg := SL.C3 (c := 214) (d := 203) (s := 204) hh ((SL.BI (T := Ty.u8) sf).f1)
  have hj := (fO sg m3)
  have hk := sg.Gm m0
  refine gx F (Al (vs := [v1, v5]) CC Fw rfl (cs := [v1, v5]) (Do rfl (Ag hj) (by simp) <| Do rfl (hk).1 (by simp) <| BG)) 0 rfl rfl fun _ F => ?_
  refine Ai F sg.f2 rfl rfl EL (Ab (Aq (fO sg.f2 m3)) (Ab (sg.f2.Gm m1).2 Ap)) (Ac rfl) fun wd _ F sh => ?_
  cases H
  refine gw 5 F rfl fun _ F => ?_
  refine Ak (rs := [.cell 4 226, .tmp 5]) (vs := [.agg ⟨[v1, v5]⟩, jI 0]) F (by rfl) ⟨_, _, rfl, Am sh m0 rfl Em rfl, _, _, rfl, Ao rfl, rfl⟩ ⟨_, rfl, ⟨v1, v5, rfl, sh.drop.f1.drop.f1⟩⟩
 refine AG F se m0 0 rfl fun _ F => ?_
 refine Ae (parts := [(0, .tmp 49)]) Flat.u8 ([x0.Result] : List UInt8) F se Br rfl (by decide) rfl rfl rfl (by simp [Value.cells]) rfl rfl rfl fun v6 we _ F si => ?_
 refine As (args := [.tmp 50]) F CQ rfl (BW (Ag (fO si m0))) rfl fun v7 wf _ hl F => ?_
 obtain ⟨g4, hm, hn⟩ := hl
 have sj := si.add hn
 have sk := SL.C3 (c := 214) (d := 203) (s := 204) hm sj.f1.f1
 have ho := (fO sk m3)
 have hp := sk.Gm m0
 refine gx F (Al (vs := [v1, v7]) CC Fw rfl (cs := [v1, v7]) (Do rfl (Ag ho) (by simp) <| Do rfl (hp).1 (by simp) <| BG)) 0 rfl rfl fun _ F => ?_
 refine Ai F sk.f2 rfl rfl EL (Ab (Aq (fO sk.f2 m3)) (Ab (sk.f2.Gm m1).2 Ap)) (Ac rfl) fun wg _ F sl => ?_
 cases H
 refine gw 4 F rfl fun _ F => ?_
 refine Ak (rs := [.cell 4 226, .tmp 5]) (vs := [.agg ⟨[v1, v7]⟩, jI 0]) F (by rfl) ⟨_, _, rfl, Am sl m0 rfl Em rfl, _, _, rfl, Ao rfl, rfl⟩ ⟨_, rfl, ⟨v1, v7, rfl, sl.drop.f1.drop.f1⟩⟩
theorem VB {w : World} {a0 : UInt8} {r : (List A5)} (H : Nl a0 = some r) :
    Calls prog 207 #[jU (a0.toNat : Int)] w (B9 fun u_ w_ => ∃ u0 : Value, u_ = u0 ∧ SL w [] w_ [Sl AD u0 r]) := by
 have s0 : SL w [] w [] := SL.Bt w
 refine BD func207 ntmps207 12 rfl rfl rfl fun _ F => ?_
 unfold Nl at H
 refine AH F H 7 5 rfl rfl rfl (fun h0 H _ F => ?_) (fun h0 H _ F => ?_)
 ·cases H
  exact rt F ⟨(.slice none 0 0), rfl, (SL.BI (T := AD) s0)⟩
 obtain ⟨x0, h1, H⟩ := Aa H
 refine B5 F s0 (Ko h1) 0 rfl rfl rfl rfl fun w0 _ F s1 => ?_
 refine Ae (parts := [(0, .tmp 6)]) BZ ([x0] : List A5) F s1 Cv rfl (by decide) rfl rfl rfl (by simp [Value.cells]) rfl rfl rfl fun v0 w1 _ F s2 => ?_
 cases H
 exact gw 4 F rfl fun _ F => rt F ⟨v0, rfl, s2⟩
theorem TW {w : World} {FF : List Nat} {g2 : Nat} {v0_0 v0_1 v2_0 : Value} {a0 : AA} {a1 : A9} {a2 : Gv} {r : BL × Int} (hst : B1 [A8 g2 142 [v2_0], JK 214 203 204 47 v2_0 a2] w FF) (hr0_0 : Rd AB w FF v0_0 a0.Classes) (hr0_1 : Rd B8 w FF v0_1 a0.AQ) (H : LH a0 a1 a2 = some r) :
    Calls prog 206 #[.agg ⟨[v0_0, v0_1, jI a0.Fn]⟩, .agg ⟨[jI a1.At, jU (a1.Op.toNat : Int), jI a1.A, jI a1.B]⟩, jP g2] w (B9 fun u_ w_ => ∃ u0 u1 : Value, u_ = .tuple ⟨[.agg ⟨[u0, u1]⟩, jI r.2]⟩ ∧ SL w FF w_ [Sl AD u0 r.1.takes, JK 214 203 204 47 u1 r.1.gives]) := by
 have s0 : SL w FF w [A8 g2 142 [v2_0], JK 214 203 204 47 v2_0 a2] := SL.init w FF hst
 refine BD func206 ntmps206 2 rfl rfl rfl fun _ F0 => ?_
 unfold LH at H
 refine Ar F0 s0 rfl rfl rfl fun g0 w0 _ F s1 => Ar F s1 rfl rfl rfl fun g1 w1 _ F s2 => Af F s2 CC rfl rfl fun g32 w2 _ F s3 => ?_
 obtain ⟨x0, h0, H⟩ := Aa H
 obtain ⟨x1, h1, H⟩ := Aa H
 refine gw 4 F rfl fun _ F => Cq Bq s3.drop ?_
 obtain ⟨a3, c0, G0, h2, h3, h4, h5⟩ := Rd.idx hr0_1 E2 rfl h0
 obtain ⟨v0, rfl, h6⟩ := (Ga h4 h5)
 have hc159_ := h3; clear h3; have h3 := fun w_ (hC : SL w FF w_ [A8 g1 79 [jI a1.At, jU (a1.Op.toNat : Int), jI a1.A, jI a1.B], A8 g0 110 [v0_0, v0_1, jI a0.Fn], A8 g2 142 [v2_0], JK 214 203 204 47 v2_0 a2]) => hc159_ _ _ hC
 refine hq [0, 1, 2, 3, 4, 5, 6, 8] F s3.drew.drop (QI.ev 1 rfl <| QI.ld m1 rfl <| QI.ev 1 rfl <| QI.ld m1 rfl <| QI.ix h2 rfl <| QI.op rfl (fun _ hC => Ba RY rfl) rfl <| QI.op rfl (fun _ hC => An BF rfl (Bn.at_ (h3 _ hC) (o := 1) rfl)) rfl <| QI.ld m2 rfl <| QI.nil) (by kernel_rfl) fun _ F => ?_
 refine ho 7 rfl (by kernel_rfl) ?_
 refine Df F (VB h1) fun v1 w3 _ h7 F => ?_
 obtain ⟨_, rfl, h8⟩ := h7
 have s4 := s3.drew.add h8
 refine gw 1 F rfl fun _ F => ⟨s4.drop.drop, ?_⟩
 refine ho 9 rfl (by kernel_rfl) ?_
 have h9 := (fO s4 m0)
 have ha := s4.Gm m5
 refine gx F (Al (vs := [v1, v2_0]) CC Fw rfl (cs := [v1, v2_0]) (Do rfl (Ag h9) (by simp) <| Do rfl (ha).1 (by simp) <| BG)) 1 rfl rfl fun _ F => ?_
 refine ⟨s4.drop.drop, ?_⟩
 refine ho 10 rfl (by kernel_rfl) ?_
 refine Ai F s4.f1 rfl rfl EL (Ab (Aq (fO s4.f1 m1)) (Ab (s4.f1.Gm m5).2 Ap)) (Ac rfl) fun w4 _ F s5 => gw 1 F rfl fun _ F => ⟨s5.drop.drop, ?_⟩
 refine hq [11] F s5.drop.drop (QI.ev 1 rfl <| QI.nil) (by kernel_rfl) fun _ F => ?_
 refine CP (by kernel_rfl) ?_
 cases H
 refine ge 2 F rfl fun _ F => ?_
 refine Ak (rs := [.cell 5 226, .tmp 6]) (vs := [.agg ⟨[v1, v2_0]⟩, jI 0]) F (by rfl) ⟨_, _, rfl, Am s5 m0 rfl Em rfl, _, _, rfl, Ao rfl, rfl⟩ ⟨_, rfl, ⟨v1, v2_0, rfl, s5.drop.f1.drop.f1.drop.f1.drop⟩⟩
theorem TK {w : World} {FF : List Nat} {g2 g3 : Nat} {v0_0 v0_1 v2_0 v3_0 : Value} {a0 : AA} {a1 : A9} {a2 : List A5} {a3 : Gv} {r : BL × Int} (hst : B1 [A8 g2 224 [v2_0], Sl AD v2_0 a2, A8 g3 142 [v3_0], JK 214 203 204 47 v3_0 a3] w FF) (hr0_0 : Rd AB w FF v0_0 a0.Classes) (hr0_1 : Rd B8 w FF v0_1 a0.AQ) (H : LN a0 a1 a2 a3 = some r) :
    Calls prog 215 #[.agg ⟨[v0_0, v0_1, jI a0.Fn]⟩, .agg ⟨[jI a1.At, jU (a1.Op.toNat : Int), jI a1.A, jI a1.B]⟩, jP g2, jP g3] w (B9 fun u_ w_ => ∃ u0 u1 : Value, u_ = .tuple ⟨[.agg ⟨[u0, u1]⟩, jI r.2]⟩ ∧ SL w FF w_ [Sl AD u0 r.1.takes, JK 214 203 204 47 u1 r.1.gives]) := by
 have s0 : SL w FF w [A8 g2 224 [v2_0], Sl AD v2_0 a2, A8 g3 142 [v3_0], JK 214 203 204 47 v3_0 a3] := SL.init w FF hst
 refine BD func215 ntmps215 2 rfl rfl rfl fun _ F0 => ?_
 unfold LN at H
 refine Ar F0 s0 rfl rfl rfl fun g0 w0 _ F s1 => Ar F s1 rfl rfl rfl fun g1 w1 _ F s2 => Af F s2 CC rfl rfl fun g32 w2 _ F s3 => ?_
 have h0 := (fO s3 m4)
 have h1 := s3.Gm m6
 refine gw 5 F rfl fun _ F => AG F s3 m3 0 rfl fun _ F => AG F s3 m5 0 rfl fun _ F => ?_
 refine gx F (Al (vs := [v2_0, v3_0]) CC Fw rfl (cs := [v2_0, v3_0]) (Do rfl (Ag h0) (by simp) <| Do rfl (h1).1 (by simp) <| BG)) 0 rfl rfl fun _ F => ?_
 refine Ai F s3 rfl rfl EL (Ab (Aq (fO s3 m4)) (Ab (s3.Gm m6).2 Ap)) (Ac rfl) fun w3 _ F s4 => ?_
 cases H
 refine gw 4 F rfl fun _ F => ?_
 refine Ak (rs := [.cell 6 226, .tmp 7]) (vs := [.agg ⟨[v2_0, v3_0]⟩, jI 0]) F (by rfl) ⟨_, _, rfl, Am s4 m0 rfl Em rfl, _, _, rfl, Ao rfl, rfl⟩ ⟨_, rfl, ⟨v2_0, v3_0, rfl, s4.drop.drop.drop.drop.f1.drop⟩⟩
theorem Pf {w : World} {a0 : Int} {r : UInt8} (H : MN a0 = some r) :
    Calls prog 217 #[jI a0] w (B9 fun u_ w_ => u_ = jU (r.toNat : Int) ∧ SL w [] w_ []) := by
 have s0 : SL w [] w [] := SL.Bt w
 refine BD func217 ntmps217 8 rfl rfl rfl fun _ F7 => ?_
 unfold MN at H
 refine gx F7 (RI rfl underlying3 underlying48) 0 rfl rfl fun _ F8 => ?_
 cases H
 exact gx F8 (Te rfl rfl) 4 rfl rfl fun _ F => rt F ⟨rfl, s0⟩
theorem Sj {w : World} {FF : List Nat} {g2 g3 : Nat} {v0_0 v0_1 v3_0 : Value} {a0 : AA} {a1 : A9} {a2 : Bool} {a3 : List A5} {r : BL × Int} (hst : B1 [A8 g2 4 [.bool a2], A8 g3 224 [v3_0], Sl AD v3_0 a3] w FF) (hr0_0 : Rd AB w FF v0_0 a0.Classes) (hr0_1 : Rd B8 w FF v0_1 a0.AQ) (H : II a0 a1 a2 a3 = some r) :
    Calls prog 216 #[.agg ⟨[v0_0, v0_1, jI a0.Fn]⟩, .agg ⟨[jI a1.At, jU (a1.Op.toNat : Int), jI a1.A, jI a1.B]⟩, jP g2, jP g3] w (B9 fun u_ w_ => ∃ u0 u1 : Value, u_ = .tuple ⟨[.agg ⟨[u0, u1]⟩, jI r.2]⟩ ∧ SL w FF w_ [Sl AD u0 r.1.takes, JK 214 203 204 47 u1 r.1.gives]) := by
 have s0 : SL w FF w [A8 g2 4 [.bool a2], A8 g3 224 [v3_0], Sl AD v3_0 a3] := SL.init w FF hst
 refine BD func216 ntmps216 2 rfl rfl rfl fun _ F0 => ?_
 unfold II at H
 refine Ar F0 s0 rfl rfl rfl fun g0 w0 _ F s1 => Ar F s1 rfl rfl rfl fun g1 w1 _ F s2 => Af F s2 CC rfl rfl fun g32 w2 _ F s3 => gw 7 F rfl fun _ F => AG F s3 m1 2 rfl fun _ F => BB 11 F H (fun h0 H F => ?_) (fun h0 H F => ?_)
 ·refine gw 12 F rfl fun _ F => gx F (Al (vs := []) CC Fw rfl (cs := [.slice none 0 0, .nilFunc]) (rfl)) 0 rfl rfl fun _ F => Ai F s3 rfl rfl EL (Ab rfl (Ab rfl Ap)) (Ac rfl) fun w3 _ F s4 => ?_
  cases H
  refine gw 5 F rfl fun _ F => ?_
  refine Ak (rs := [.cell 6 226, .tmp 7]) (vs := [.agg ⟨[.slice none 0 0, .nilFunc]⟩, jI 72]) F (by rfl) ⟨_, _, rfl, Am s4 m0 rfl Em rfl, _, _, rfl, Ao rfl, rfl⟩ ⟨_, rfl, ⟨(.slice none 0 0), .nilFunc, rfl, (SL.Nn (SL.BI (T := AD) s4)).f2.drop.f2.drop.f2.drop.f2.drop.f2.drop.f2.drop.f1⟩⟩
 refine gw 1 F rfl fun _ F => AK F rfl rfl <| AG F s3 m1 1 rfl fun _ F => AK F rfl rfl <| AG F s3 m2 0 rfl fun _ F => AK F rfl rfl <| gx F (Ah rfl underlying22 (fR hr0_0 s3)) 4 rfl rfl fun _ F => AH F H 2 5 rfl rfl rfl (fun h1 H _ F => ?_) (fun h1 H _ F => ?_)
 ·refine gx F (Al (vs := []) CC Fw rfl (cs := [.slice none 0 0, .nilFunc]) (rfl)) 0 rfl rfl fun _ F => Ai F s3 rfl rfl EL (Ab rfl (Ab rfl Ap)) (Ac rfl) fun w4 _ F s5 => ?_
  cases H
  refine gw 5 F rfl fun _ F => ?_
  refine Ak (rs := [.cell 6 226, .tmp 7]) (vs := [.agg ⟨[.slice none 0 0, .nilFunc]⟩, jI 72]) F (by rfl) ⟨_, _, rfl, Am s5 m0 rfl Em rfl, _, _, rfl, Ao rfl, rfl⟩ ⟨_, rfl, ⟨(.slice none 0 0), .nilFunc, rfl, (SL.Nn (SL.BI (T := AD) s5)).f2.drop.f2.drop.f2.drop.f2.drop.f2.drop.f2.drop.f1⟩⟩
 refine AG F s3 m3 3 rfl fun _ F => AH F H 1 3 rfl rfl rfl (fun h2 H _ F => ?_) (fun h2 H _ F => ?_)
 ·refine Cq Bq s3.drop ?_
  refine hq [0] F s3.drew.drop (QI.ld m3 rfl <| QI.nil) (by kernel_rfl) fun _ F => ?_
  refine ho 1 rfl (by kernel_rfl) ?_
  refine Ae (parts := [(0, .const (jU 2))]) Flat.u8 ([(2 : UInt8)] : List UInt8) F s3.drew Br rfl (by decide) rfl rfl rfl (by simp [Value.cells]) rfl rfl rfl fun v0 w5 _ F s6 => ?_
  refine gw 1 F rfl fun _ F => ⟨s6.drop.drop, ?_⟩
  refine ho 2 rfl (by kernel_rfl) ?_
  refine As (args := [.tmp 23]) F CQ rfl (BW (Ag (fO s6 m0))) rfl fun v1 w6 _ h3 F => ?_
  obtain ⟨g4, h4, h5⟩ := h3
  have s7 := s6.add h5
  have s8 := SL.C3 (c := 214) (d := 203) (s := 204) h4 s7.f1.f1
  refine gw 1 F rfl fun _ F => ⟨s8.drop.drop, ?_⟩
  refine ho 3 rfl (by kernel_rfl) ?_
  have h6 := (fO s8 m6)
  have h7 := s8.Gm m0
  refine gx F (Al (vs := [v3_0, v1]) CC Fw rfl (cs := [v3_0, v1]) (Do rfl (Ag h6) (by simp) <| Do rfl (h7).1 (by simp) <| BG)) 1 rfl rfl fun _ F => ?_
  refine ⟨s8.drop.drop, ?_⟩
  refine ho 4 rfl (by kernel_rfl) ?_
  refine Ai F s8.f1 rfl rfl EL (Ab (Aq (fO s8.f1 m6)) (Ab (s8.f1.Gm m1).2 Ap)) (Ac rfl) fun w7 _ F s9 => gw 1 F rfl fun _ F => ⟨s9.drop.drop, ?_⟩
  refine hq [5] F s9.drop.drop (QI.ev 1 rfl <| QI.nil) (by kernel_rfl) fun _ F => ?_
  refine CP (by kernel_rfl) ?_
  cases H
  refine ge 3 F rfl fun _ F => ?_
  refine Ak (rs := [.cell 6 226, .tmp 7]) (vs := [.agg ⟨[v3_0, v1]⟩, jI 0]) F (by rfl) ⟨_, _, rfl, Am s9 m0 rfl Em rfl, _, _, rfl, Ao rfl, rfl⟩ ⟨_, rfl, ⟨v3_0, v1, rfl, s9.drop.f1.drop.f1.drop.f1.drop.f1.drop.f1⟩⟩
 obtain ⟨x0, h8, H⟩ := Aa H
 refine Cq Bq s3.drop ?_
 refine hq [0, 1, 2] F s3.drew.drop (QI.ld m3 rfl <| QI.ev 1 rfl <| QI.ld m0 rfl <| QI.nil) (by kernel_rfl) fun _ F => ?_
 refine ho 3 rfl (by kernel_rfl) ?_
 refine B5 F s3.drew (Pf h8) 1 rfl rfl rfl rfl fun w8 _ F sa => ⟨sa.drop, ?_⟩
 refine ho 4 rfl (by kernel_rfl) ?_
 refine Ae (parts := [(0, .tmp 29)]) Flat.u8 ([x0] : List UInt8) F sa Br rfl (by decide) rfl rfl rfl (by simp [Value.cells]) rfl rfl rfl fun v2 w9 _ F sb => ?_
 refine gw 1 F rfl fun _ F => ⟨sb.drop.drop, ?_⟩
 refine ho 5 rfl (by kernel_rfl) ?_
 refine As (args := [.tmp 30]) F CQ rfl (BW (Ag (fO sb m0))) rfl fun v3 wa _ h9 F => ?_
 obtain ⟨g5, ha, hb⟩ := h9
 have sc := sb.add hb
 have sd := SL.C3 (c := 214) (d := 203) (s := 204) ha sc.f1.f1
 refine gw 1 F rfl fun _ F => ⟨sd.drop.drop, ?_⟩
 refine ho 6 rfl (by kernel_rfl) ?_
 have hc := (fO sd m6)
 have hd := sd.Gm m0
 refine gx F (Al (vs := [v3_0, v3]) CC Fw rfl (cs := [v3_0, v3]) (Do rfl (Ag hc) (by simp) <| Do rfl (hd).1 (by simp) <| BG)) 1 rfl rfl fun _ F => ?_
 refine ⟨sd.drop.drop, ?_⟩
 refine ho 7 rfl (by kernel_rfl) ?_
 refine Ai F sd.f1 rfl rfl EL (Ab (Aq (fO sd.f1 m6)) (Ab (sd.f1.Gm m1).2 Ap)) (Ac rfl) fun wb _ F se => gw 1 F rfl fun _ F => ⟨se.drop.drop, ?_⟩
 refine hq [8] F se.drop.drop (QI.ev 1 rfl <| QI.nil) (by kernel_rfl) fun _ F => ?_
 refine CP (by kernel_rfl) ?_
 cases H
 refine ge 2 F rfl fun _ F => ?_
 refine Ak (rs := [.cell 6 226, .tmp 7]) (vs := [.agg ⟨[v3_0, v3]⟩, jI 0]) F (by rfl) ⟨_, _, rfl, Am se m0 rfl Em rfl, _, _, rfl, Ao rfl, rfl⟩ ⟨_, rfl, ⟨v3_0, v3, rfl, se.drop.f1.drop.f1.drop.f1.drop.f1.drop.f1⟩⟩
theorem Rp {w : World} {FF : List Nat} {g1 : Nat} {v1_0 : Value} {a0 : Int} {a1 : List Int} {r : Bool × (List Int)} (hst : B1 [A8 g1 28 [v1_0], Sl (Ty.int .i64) v1_0 a1] w FF) (H : Kz a0 a1 = some r) :
    Calls prog 100 #[jI a0, jP g1] w (B9 fun u_ w_ => ∃ u0 : Value, u_ = .bool r.1 ∧ SL w FF w_ [A8 g1 28 [u0], Sl (Ty.int .i64) u0 r.2]) := by
 have s0 : SL w FF w [A8 g1 28 [v1_0], Sl (Ty.int .i64) v1_0 a1] := SL.init w FF hst
 refine BD func100 ntmps100 7 rfl rfl rfl fun _ F2 => ?_
 unfold Kz at H
 refine AG F2 s0 m0 1 rfl fun _ F => ?_
 refine Ae (parts := [(0, .tmp 5)]) (Flat.int .i64) ([a0] : List Int) F s0 Bz rfl (by decide) rfl rfl rfl (by simp [Value.cells]) rfl rfl rfl fun v0 w0 _ F s1 => ?_
 obtain ⟨x0, h0, H⟩ := Aa H
 obtain ⟨_, hr_⟩ := (s1.f2.BK m1)
 refine Aw (Flat.int .i64) F s1.f2 Bz rfl rfl rfl rfl hr_ rfl rfl h0 rfl fun v1 w1 _ F s2 => ?_
 have s38' := s2.f1.drop
 have s3 := s38'.f1
 refine Ay F s3 rfl rfl Ays (Ag (fO s3 m1)) (Aq (fO s3 m1)) rfl fun w2 _ F s4 => ?_
 cases H
 exact gw 8 F rfl fun _ F => rt F ⟨v1, rfl, s4⟩
theorem O2 {w : World} {FF : List Nat} {g0 : Nat} {v0 v300_0 : Value} {a0 : List A6} {a1 : Int} {a300 : List Int} {r : (List Int)} (hst : B1 [A8 g0 28 [v300_0], Sl (Ty.int .i64) v300_0 a300] w FF) (hr0 : Rd AB w FF v0 a0) (H : EF a0 a1 a300 = some r) :
    Calls prog 99 #[v0, jI a1, clo 100 [jP g0]] w (B9 fun u_ w_ => ∃ u0 : Value, u_ = .tuple ⟨[]⟩ ∧ SL w FF w_ [A8 g0 28 [u0], Sl (Ty.int .i64) u0 r]) := by
 have s0 : SL w FF w [A8 g0 28 [v300_0], Sl (Ty.int .i64) v300_0 a300] := SL.init w FF hst
 refine BD func99 ntmps99 0 rfl rfl rfl fun _ F0 => ?_
 unfold EF at H
 obtain ⟨o0, H0, R0⟩ := Aa H
 clear H
 refine BA (fun a w_ => ∃ p0 : (List Int), o0 = .inr (p0) ∧ ∃ v1 : Value, Fr a 29 [] ∧ SL w FF w_ [A8 g0 28 [v1], Sl (Ty.int .i64) v1 p0]) ?_ ?_
 ·have H := H0
  refine gc 1 F0 rfl fun _ F0 => Cy (C6 a0) (fun s1 a w_ => ∃ v2 : Value, Fr a 29 [(0, v0), (1, jI s1.2), (2, clo 100 [jP g0])] ∧ SL w FF w_ [A8 g0 28 [v2], Sl (Ty.int .i64) v2 s1.1]) H ?_ ?_
  ·exact ⟨v300_0, F0.sb, s0⟩
  intro s1 _ w0 h0 o1 H hr
  obtain ⟨v2, F, s2⟩ := h0
  replace H : C6 a0 s1 = some o1 := H
  unfold C6 at H
  refine gc 6 F rfl fun _ F => BB 9 F H (fun h1 H F => ?_) (fun h1 H F => ?_)
  ·refine gw 2 F rfl fun _ F => AK F rfl rfl <| gx F (Ah rfl underlying22 (fR hr0 s2)) 3 rfl rfl fun _ F => BB 15 F H (fun h2 H F => ?_) (fun h2 H F => ?_)
   ·obtain ⟨x0, h3, H⟩ := Aa H
    refine gw 2 F rfl fun _ F => AK F rfl rfl ?_
    obtain ⟨G0, h4, h5, h6, h7⟩ := SL.open_ (ps := [A8 g0 28 [v2], Sl (Ty.int .i64) v2 s1.1]) (rest := []) s2.f1.f1
    refine Hb (args := [.tmp 17]) F Aqs rfl rfl (Rp (a0 := s1.2) (a1 := s1.1) h4 h3) rfl fun v3 w1 _ h8 F => ?_
    obtain ⟨v4, rfl, h9⟩ := h8
    have s3 := h7 _ _ h9
    refine gw 3 F rfl fun _ F => AH F H 5 4 rfl rfl rfl (fun ha H _ F => ?_) (fun ha H _ F => ?_)
    ·obtain ⟨x1, hb, H⟩ := Aa H
     obtain ⟨a2, c0, G1, hc, hd, he, hf⟩ := Rd.idx hr0 D5 rfl hb
     obtain ⟨v5, rfl, hg⟩ := (C7 he hf)
     replace hd := hd _ _ s3
     refine gw 2 F rfl fun _ F => gi F hc 0 rfl fun _ F => gx F (Ba HF rfl) 0 rfl rfl fun _ F => gx F (An BE rfl (Bn.at_ hd (o := 1) rfl)) 11 rfl rfl fun _ F => AH F H 6 7 rfl rfl rfl (fun hh H _ F => ?_) (fun hh H _ F => ?_)
     ·cases H
      obtain rfl := hr _ rfl
      replace H := R0
      try dsimp only at H
      cases H
      exact rt F ⟨v4, rfl, s3⟩
     cases H
     exact ⟨_, rfl, v4, F.sb, s3⟩
    cases H
    obtain rfl := hr _ rfl
    exact ⟨_, rfl, v4, F.sb, s3⟩
   cases H
   obtain rfl := hr _ rfl
   exact gw 11 F rfl fun _ F => ⟨_, rfl, v2, F.sb, s2⟩
  cases H
  obtain rfl := hr _ rfl
  exact gw 17 F rfl fun _ F => ⟨_, rfl, v2, F.sb, s2⟩
 intro _ w2 hJ
 obtain ⟨p0, rfl, v1, F, s4⟩ := hJ
 have H := R0
 clear R0 H0
 try dsimp only at H
 cases H
 exact Tg F (by rfl) ⟨_, rfl, ⟨v1, rfl, s4⟩⟩
theorem Vr {w : World} {v0 : Value} {a0 : List A6} {a1 : Int} {r : (List B6)} (hr0 : Rd AB w [] v0 a0) (H : HI a0 a1 = some r) :
    Calls prog 67 #[v0, jI a1] w (B9 fun u_ w_ => ∃ u0 : Value, u_ = u0 ∧ SL w [] w_ [Sl Ct u0 r]) := by
 have s0 : SL w [] w [] := SL.Bt w
 refine BD func67 ntmps67 7 rfl rfl rfl fun _ F2 => ?_
 unfold HI at H
 refine Af F2 s0 Ab8 rfl rfl fun g9 w0 _ F s1 => ?_
 obtain ⟨x0, h0, H⟩ := Aa H
 refine gw 6 F rfl fun _ F => gx F (Gc (cs := [.tmp 5]) (vs := [jP g9]) rfl) 0 rfl rfl fun _ F => ?_
 have s2 := (SL.BI (T := (Ty.int .i64)) s1).f1
 obtain ⟨G0, h1, h2, h3, h4⟩ := SL.open_ (ps := [A8 g9 28 [.slice none 0 0], Sl (Ty.int .i64) (.slice none 0 0) []]) (rest := []) s2
 refine Df F (O2 (a300 := []) h1 (hr0.pass s2 h2) h0) fun v1 w1 _ h5 F => ?_
 obtain ⟨v2, rfl, h6⟩ := h5
 have s3 := h4 _ _ h6
 refine gw 10 F rfl fun _ F => AG F s3 m0 0 rfl fun _ F => ?_
 obtain ⟨o0, H0, R0⟩ := Aa H
 clear H
 refine gx F (Ah rfl underlying28 (fO s3 m1)) 4 rfl rfl fun _ F => BA (fun a w_ => ∃ v3 : Value, Fr a 30 [(6, v3)] ∧ SL w [] w_ [Sl (Ty.int .i64) v2 x0, Sl Ct v3 o0]) ?_ ?_
 ·have H := H0
  refine gc 1 F rfl fun _ F => Cy (E6 a0 x0) (fun s4 a w_ => ∃ v4 : Value, Fr a 30 [(0, v0), (5, jP g9), (6, v4), (7, jI s4.2)] ∧ SL w [] w_ [A8 g9 28 [v2], Sl (Ty.int .i64) v2 x0, Sl Ct v4 s4.1]) H ?_ ?_
  ·exact ⟨(.slice none 0 0), F.sb, (SL.BI (T := Ct) s3).f2.f2⟩
  intro s4 _ w2 h7 o1 H hr
  obtain ⟨v4, F, s5⟩ := h7
  replace H : E6 a0 x0 s4 = some o1 := H
  unfold E6 at H
  refine gc 7 F rfl fun _ F => AH F H 5 4 rfl rfl rfl (fun h8 H _ F => ?_) (fun h8 H _ F => ?_)
  ·obtain ⟨x1, h9, H⟩ := Aa H
   obtain ⟨a2, ha, hb⟩ := Ax (Flat.int .i64) s5 m1 Bz rfl h9
   obtain ⟨x2, hc, H⟩ := Aa H
   obtain ⟨a3, c0, G1, hd, he, hf, hg⟩ := Rd.idx hr0 D5 rfl hc
   obtain ⟨v5, rfl, hh⟩ := (C7 hf hg)
   replace he := he _ _ s5
   obtain ⟨x3, hi, H⟩ := Aa H
   refine gw 2 F rfl fun _ F => AG F s5 m0 1 rfl fun _ F => gi F ha 0 rfl fun _ F => gx F (An BE rfl (Bn.at_ (SL.C0 (Flat.int .i64) s5 m1 hb h9) (o := 0) rfl)) 0 rfl rfl fun _ F => gi F hd 0 rfl fun _ F => gx F (Ba Ku rfl) 0 rfl rfl fun _ F => gx F (An Lp rfl (Bn.at_ he (o := 2) rfl)) 0 rfl rfl fun _ F => ?_
   obtain ⟨_, hr_⟩ := (Eb hh s5.f2)
   refine Aw DO F s5.f2 Hd rfl rfl rfl rfl hr_ rfl rfl hi rfl fun v6 w3 _ F s6 => ?_
   cases H
   exact gw 9 F rfl fun _ F => ⟨_, rfl, v6, F.sb, s6.f2.f2⟩
  cases H
  obtain rfl := hr _ rfl
  exact ⟨v4, F.sb, s5.drop⟩
 intro _ w4 hJ
 obtain ⟨v3, F, s7⟩ := hJ
 have H := R0
 clear R0 H0
 cases H
 exact ge 8 F rfl fun _ F => rt F ⟨v3, rfl, s7.drop⟩
theorem Ub {w : World} {FF : List Nat} {g2 : Nat} {v0_0 v0_1 : Value} {a0 : AA} {a1 : A9} {a2 : Bool} {r : BL × Int} (hst : B1 [A8 g2 4 [.bool a2]] w FF) (hr0_0 : Rd AB w FF v0_0 a0.Classes) (hr0_1 : Rd B8 w FF v0_1 a0.AQ) (H : LM a0 a1 a2 = some r) :
    Calls prog 218 #[.agg ⟨[v0_0, v0_1, jI a0.Fn]⟩, .agg ⟨[jI a1.At, jU (a1.Op.toNat : Int), jI a1.A, jI a1.B]⟩, jP g2] w (B9 fun u_ w_ => ∃ u0 u1 : Value, u_ = .tuple ⟨[.agg ⟨[u0, u1]⟩, jI r.2]⟩ ∧ SL w FF w_ [Sl AD u0 r.1.takes, JK 214 203 204 47 u1 r.1.gives]) := by
 have s0 : SL w FF w [A8 g2 4 [.bool a2]] := SL.init w FF hst
 refine BD func218 ntmps218 2 rfl rfl rfl fun _ F0 => ?_
 unfold LM at H
 refine Ar F0 s0 rfl rfl rfl fun g0 w0 _ F s1 => Ar F s1 rfl rfl rfl fun g1 w1 _ F s2 => Af F s2 CC rfl rfl fun g32 w2 _ F s3 => ?_
 obtain ⟨x0, h0, H⟩ := Aa H
 refine gw 6 F rfl fun _ F => AG F s3 m2 1 rfl fun _ F => AG F s3 m1 0 rfl fun _ F => Df F (Vr (hr0_0.AN s3) h0) fun v0 w3 _ h1 F => ?_
 obtain ⟨_, rfl, h2⟩ := h1
 have s4 := s3.add h2
 refine gw 7 F rfl fun _ F => AG F s4 m2 2 rfl fun _ F => BB 17 F H (fun h3 H F => ?_) (fun h3 H F => ?_)
 ·refine gw 24 F rfl fun _ F => gx F (Al (vs := []) CC Fw rfl (cs := [.slice none 0 0, .nilFunc]) (rfl)) 0 rfl rfl fun _ F => Ai F s4.f1 rfl rfl EL (Ab rfl (Ab rfl Ap)) (Ac rfl) fun w4 _ F s5 => ?_
  cases H
  refine gw 5 F rfl fun _ F => ?_
  refine Ak (rs := [.cell 5 226, .tmp 6]) (vs := [.agg ⟨[.slice none 0 0, .nilFunc]⟩, jI 72]) F (by rfl) ⟨_, _, rfl, Am s5 m0 rfl Em rfl, _, _, rfl, Ao rfl, rfl⟩ ⟨_, rfl, ⟨(.slice none 0 0), .nilFunc, rfl, (SL.Nn (SL.BI (T := AD) s5)).f2.drop.f2.drop.f2.drop.f2.drop.f2.drop.f1⟩⟩
 refine gw 1 F rfl fun _ F => AK F rfl rfl <| AG F s4 m2 1 rfl fun _ F => AK F rfl rfl <| AG F s4 m3 0 rfl fun _ F => AK F rfl rfl <| gx F (Ah rfl underlying22 (fR hr0_0 s4)) 3 rfl rfl fun _ F => BB 25 F H (fun h4 H F => ?_) (fun h4 H F => ?_)
 ·refine gw 16 F rfl fun _ F => gx F (Al (vs := []) CC Fw rfl (cs := [.slice none 0 0, .nilFunc]) (rfl)) 0 rfl rfl fun _ F => Ai F s4.f1 rfl rfl EL (Ab rfl (Ab rfl Ap)) (Ac rfl) fun w5 _ F s6 => ?_
  cases H
  refine gw 5 F rfl fun _ F => ?_
  refine Ak (rs := [.cell 5 226, .tmp 6]) (vs := [.agg ⟨[.slice none 0 0, .nilFunc]⟩, jI 72]) F (by rfl) ⟨_, _, rfl, Am s6 m0 rfl Em rfl, _, _, rfl, Ao rfl, rfl⟩ ⟨_, rfl, ⟨(.slice none 0 0), .nilFunc, rfl, (SL.Nn (SL.BI (T := AD) s6)).f2.drop.f2.drop.f2.drop.f2.drop.f2.drop.f1⟩⟩
 refine gw 1 F rfl fun _ F => AK F rfl rfl <| AG F s4 m2 3 rfl fun _ F => BB 30 F H (fun h5 H F => ?_) (fun h5 H F => ?_)
 ·refine gw 11 F rfl fun _ F => gx F (Al (vs := []) CC Fw rfl (cs := [.slice none 0 0, .nilFunc]) (rfl)) 0 rfl rfl fun _ F => Ai F s4.f1 rfl rfl EL (Ab rfl (Ab rfl Ap)) (Ac rfl) fun w6 _ F s7 => ?_
  cases H
  refine gw 5 F rfl fun _ F => ?_
  refine Ak (rs := [.cell 5 226, .tmp 6]) (vs := [.agg ⟨[.slice none 0 0, .nilFunc]⟩, jI 72]) F (by rfl) ⟨_, _, rfl, Am s7 m0 rfl Em rfl, _, _, rfl, Ao rfl, rfl⟩ ⟨_, rfl, ⟨(.slice none 0 0), .nilFunc, rfl, (SL.Nn (SL.BI (T := AD) s7)).f2.drop.f2.drop.f2.drop.f2.drop.f2.drop.f1⟩⟩
 refine gw 1 F rfl fun _ F => AK F rfl rfl <| AG F s4 m2 1 rfl fun _ F => AK F rfl rfl <| gx F (Ah rfl underlying101 (fO s4 m0)) 4 rfl rfl fun _ F => AH F H 2 6 rfl rfl rfl (fun h6 H _ F => ?_) (fun h6 H _ F => ?_)
 ·refine gx F (Al (vs := []) CC Fw rfl (cs := [.slice none 0 0, .nilFunc]) (rfl)) 0 rfl rfl fun _ F => Ai F s4.f1 rfl rfl EL (Ab rfl (Ab rfl Ap)) (Ac rfl) fun w7 _ F s8 => ?_
  cases H
  refine gw 5 F rfl fun _ F => ?_
  refine Ak (rs := [.cell 5 226, .tmp 6]) (vs := [.agg ⟨[.slice none 0 0, .nilFunc]⟩, jI 72]) F (by rfl) ⟨_, _, rfl, Am s8 m0 rfl Em rfl, _, _, rfl, Ao rfl, rfl⟩ ⟨_, rfl, ⟨(.slice none 0 0), .nilFunc, rfl, (SL.Nn (SL.BI (T := AD) s8)).f2.drop.f2.drop.f2.drop.f2.drop.f2.drop.f1⟩⟩
 obtain ⟨x1, h7, H⟩ := Aa H
 obtain ⟨a3, h8, h9⟩ := Ax DO s4 m0 Hd rfl h7
 refine AG F s4 m2 0 rfl fun _ F => gi F h8 0 rfl fun _ F => gx F (Ba QX rfl) 0 rfl rfl fun _ F => gx F (An BF rfl (Bn.at_ (SL.C0 DO s4 m0 h9 h7) (o := 1) rfl)) 6 rfl rfl fun _ F => AG F s4 m4 2 rfl fun _ F => AH F H 3 5 rfl rfl rfl (fun ha H _ F => ?_) (fun ha H _ F => ?_)
 ·obtain ⟨x2, hb, H⟩ := Aa H
  refine AG F s4 m2 0 rfl fun _ F => B5 F s4 (Pf hb) 0 rfl rfl rfl rfl fun w8 _ F s9 => ?_
  obtain ⟨x3, hc, H⟩ := Aa H
  refine B5 F s9 (Ko hc) 1 rfl rfl rfl rfl fun w9 _ F sa => ?_
  obtain ⟨x4, hd, H⟩ := Aa H
  refine B5 F sa (Ko hd) 0 rfl rfl rfl rfl fun wa _ F sb => ?_
  refine Ae (parts := [(0, .tmp 48), (1, .tmp 50)]) BZ ([x3, x4] : List A5) F sb Cv rfl (by decide) rfl rfl rfl (by simp [Value.cells]) rfl rfl rfl fun v1 wb _ F sc => ?_
  refine As (args := [.const (.slice none 0 0)]) F CQ rfl (BW rfl) rfl fun v2 wc _ he F => ?_
  obtain ⟨g3, hf, hg⟩ := he
  have sd := sc.add hg
  have se := SL.C3 (c := 214) (d := 203) (s := 204) hf ((SL.BI (T := Ty.u8) sd).f1)
  have hh := (fO se m1)
  have hi := se.Gm m0
  refine gx F (Al (vs := [v1, v2]) CC Fw rfl (cs := [v1, v2]) (Do rfl (Ag hh) (by simp) <| Do rfl (hi).1 (by simp) <| BG)) 0 rfl rfl fun _ F => ?_
  refine Ai F se.f3 rfl rfl EL (Ab (Aq (fO se.f3 m2)) (Ab (se.f3.Gm m1).2 Ap)) (Ac rfl) fun wd _ F sf => ?_
  cases H
  refine gw 5 F rfl fun _ F => ?_
  refine Ak (rs := [.cell 5 226, .tmp 6]) (vs := [.agg ⟨[v1, v2]⟩, jI 0]) F (by rfl) ⟨_, _, rfl, Am sf m0 rfl Em rfl, _, _, rfl, Ao rfl, rfl⟩ ⟨_, rfl, ⟨v1, v2, rfl, sf.drop.f2.drop.f2.drop.f2.drop.f2.drop.f1⟩⟩
 obtain ⟨x5, hj, H⟩ := Aa H
 refine AG F s4 m2 0 rfl fun _ F => B5 F s4 (Pf hj) 0 rfl rfl rfl rfl fun we _ F sg => ?_
 obtain ⟨x6, hk, H⟩ := Aa H
 refine B5 F sg (Ko hk) 0 rfl rfl rfl rfl fun wf _ F sh => ?_
 refine Ae (parts := [(0, .tmp 57)]) BZ ([x6] : List A5) F sh Cv rfl (by decide) rfl rfl rfl (by simp [Value.cells]) rfl rfl rfl fun v3 wg _ F si => ?_
 refine gw 1 F rfl fun _ F => ?_
 refine Ae (parts := [(0, .tmp 59)]) Flat.u8 ([x1.GQ] : List UInt8) F si Br rfl (by decide) rfl rfl rfl (by simp [Value.cells]) rfl rfl rfl fun v4 wh _ F sj => ?_
 refine As (args := [.tmp 60]) F CQ rfl (BW (Ag (fO sj m0))) rfl fun v5 wi _ hl F => ?_
 obtain ⟨g4, hm, hn⟩ := hl
 have sk := sj.add hn
 have sl := SL.C3 (c := 214) (d := 203) (s := 204) hm sk.f1.f1
 have ho := (fO sl m1)
 have hp := sl.Gm m0
 refine gx F (Al (vs := [v3, v5]) CC Fw rfl (cs := [v3, v5]) (Do rfl (Ag ho) (by simp) <| Do rfl (hp).1 (by simp) <| BG)) 0 rfl rfl fun _ F => ?_
 refine Ai F sl.f3 rfl rfl EL (Ab (Aq (fO sl.f3 m2)) (Ab (sl.f3.Gm m1).2 Ap)) (Ac rfl) fun wj _ F sm => ?_
 cases H
 refine gw 4 F rfl fun _ F => ?_
 refine Ak (rs := [.cell 5 226, .tmp 6]) (vs := [.agg ⟨[v3, v5]⟩, jI 0]) F (by rfl) ⟨_, _, rfl, Am sm m0 rfl Em rfl, _, _, rfl, Ao rfl, rfl⟩ ⟨_, rfl, ⟨v3, v5, rfl, sm.drop.f2.drop.f2.drop.f2.drop.f2.drop.f1⟩⟩
theorem Yy {w : World} {FF : List Nat} {v v0 v1 : Value} {t : D6 A5} {e : AA} {i : A9} {r : BL × Int} (hst : B1 [Qq Bm AD v t] w FF) (hv0 : Rd AB w FF v0 e.Classes) (hv1 : Rd B8 w FF v1 e.AQ) (H : Hn t e i = some r) :
    ∃ f caps, v = clo f caps ∧ EM prog f = true ∧ Calls prog f (([.agg ⟨[v0, v1, jI e.Fn]⟩, .agg ⟨[jI i.At, jU (i.Op.toNat : Int), jI i.A, jI i.B]⟩] : List Value) ++ caps).toArray w (B9 fun u_ w_ => ∃ u0 u1 : Value, u_ = .tuple ⟨[.agg ⟨[u0, u1]⟩, jI r.2]⟩ ∧ SL w FF w_ [Sl AD u0 r.1.takes, JK 214 203 204 47 u1 r.1.gives]) := by
  cases t with
  | fixed l x =>
    obtain ⟨qs, ⟨g1, g2, u1, u2, rfl, rfl⟩, hs⟩ := Lf hst
    exact ⟨215, [jP g1, jP g2], rfl, Arw, TK hs hv0 hv1 H⟩
  | call =>
    obtain ⟨qs, ⟨rfl, rfl⟩, hs⟩ := Lf hst
    have hF : FF = [] := hs
    subst hF
    exact ⟨205, [], rfl, Adx, Yp hv0 hv1 H⟩
  | ret x =>
    obtain ⟨qs, ⟨g1, u1, rfl, rfl⟩, hs⟩ := Lf hst
    exact ⟨206, [jP g1], rfl, Alm, TW hs hv0 hv1 H⟩
  | classed l b =>
    obtain ⟨qs, ⟨g1, g2, u1, rfl, rfl⟩, hs⟩ := Lf hst
    exact ⟨216, [jP g1, jP g2], rfl, Adr, Sj hs hv0 hv1 H⟩
  | field b =>
    obtain ⟨qs, ⟨g1, rfl, rfl⟩, hs⟩ := Lf hst
    exact ⟨218, [jP g1], rfl, Akv, Ub hs hv0 hv1 H⟩
  | nil => cases H
theorem Yu {w : World} {v0_0 v0_1 : Value} {a0 : AA} {a1 : A9} {r : BL × Int} (hr0_0 : Rd AB w [] v0_0 a0.Classes) (hr0_1 : Rd B8 w [] v0_1 a0.AQ) (H : Lv a0 a1 = some r) :
    Calls prog 161 #[.agg ⟨[v0_0, v0_1, jI a0.Fn]⟩, .agg ⟨[jI a1.At, jU (a1.Op.toNat : Int), jI a1.A, jI a1.B]⟩] w (B9 fun u_ w_ => ∃ u0 u1 : Value, u_ = .tuple ⟨[.agg ⟨[u0, u1]⟩, jI r.2]⟩ ∧ SL w [] w_ [Sl AD u0 r.1.takes, JK 214 203 204 47 u1 r.1.gives]) := by
 have s0 : SL w [] w [] := SL.Bt w
 refine BD func161 ntmps161 2 rfl rfl rfl fun _ F0 => ?_
 unfold Lv at H
 refine Ar F0 s0 rfl rfl rfl fun g0 w0 _ F s1 => Ar F s1 rfl rfl rfl fun g1 w1 _ F s2 => Af F s2 CC rfl rfl fun g32 w2 _ F s3 => ?_
 obtain ⟨x0, h0, H⟩ := Aa H
 refine gw 7 F rfl fun _ F => AG F s3 m1 0 rfl fun _ F => B5 F s3 (J4 h0) 3 rfl rfl rfl rfl fun w3 _ F s4 => AH F H 2 3 rfl rfl rfl (fun h1 H _ F => ?_) (fun h1 H _ F => ?_)
 ·refine gx F (Al (vs := []) CC Fw rfl (cs := [.slice none 0 0, .nilFunc]) (rfl)) 0 rfl rfl fun _ F => Ai F s4 rfl rfl EL (Ab rfl (Ab rfl Ap)) (Ac rfl) fun w4 _ F s5 => ?_
  cases H
  refine gw 5 F rfl fun _ F => ?_
  refine Ak (rs := [.cell 4 226, .tmp 5]) (vs := [.agg ⟨[.slice none 0 0, .nilFunc]⟩, jI 40]) F (by rfl) ⟨_, _, rfl, Am s5 m0 rfl Em rfl, _, _, rfl, Ao rfl, rfl⟩ ⟨_, rfl, ⟨(.slice none 0 0), .nilFunc, rfl, (SL.Nn (SL.BI (T := AD) s5)).f2.drop.f2.drop.f2.drop.f1⟩⟩
 obtain ⟨x1, h2, H⟩ := Aa H
 obtain ⟨t0, h3, H⟩ := Aa H
 obtain ⟨x2, h4, H⟩ := Aa H
 refine Cq Bq s4.drop ?_
 refine hq [1, 2, 4, 5] F s4.drew.drop (QI.ev 1 rfl <| QI.ld m0 rfl <| QI.ld m1 rfl <| QI.ld m0 rfl <| QI.nil) (by kernel_rfl) fun _ F => ?_
 refine ho 0 rfl (by kernel_rfl) ?_
 refine As (args := []) F Agd rfl (Xt h2) rfl fun v0 w5 _ h5 F => ?_
 obtain ⟨v1, rfl, h6, h7, h8⟩ := h5
 have s6 := s4.drew.add h7
 refine gw 1 F rfl fun _ F => ⟨s6.drop, ?_⟩
 refine ho 3 rfl (by kernel_rfl) ?_
 obtain ⟨t1, h9, ha⟩ := h8 _ _ h3
 refine HG F (PR.op (Akm Cp Abz h6 rfl rfl h9) <| PR.nil) fun _ F => ?_
 have s7 := s4.drew.add ha
 refine gw 1 F rfl fun _ F => ⟨s7.drop.drop, ?_⟩
 refine ho 6 rfl (by kernel_rfl) ?_
 obtain ⟨G0, hb, hc, hd, he⟩ := SL.open_ (ps := [Qq Bm AD t1 t0]) (rest := [A8 g32 226 [.slice none 0 0, .nilFunc], A8 g1 79 [jI a1.At, jU (a1.Op.toNat : Int), jI a1.A, jI a1.B], A8 g0 110 [v0_0, v0_1, jI a0.Fn]]) s7
 obtain ⟨f0, c0, hf, hg, hh⟩ := Yy hb (hr0_0.pass s7 hc) (hr0_1.pass s7 hc) h4
 refine Hb (args := [.tmp 15, .tmp 16]) F hg (Eq.trans rfl (congrArg some hf)) rfl hh rfl fun v2 w6 _ hi F => ?_
 obtain ⟨v3, v4, rfl, hj⟩ := hi
 have s8 := he _ _ hj
 refine gw 1 F rfl fun _ F => ⟨s8.drop.drop.drop, ?_⟩
 refine hq [7, 8] F s8.drop.drop.drop (QI.ev 2 rfl <| QI.nil) (by kernel_rfl) fun _ F => ?_
 refine ho 9 rfl (by kernel_rfl) ?_
 refine Ai F s8.f2 rfl rfl EL (Ab (Aq (fO s8.f2 m1)) (Ab (s8.f2.Gm m2).2 Ap)) (Ac rfl) fun w7 _ F s9 => gw 1 F rfl fun _ F => ⟨s9.drop.drop.drop, ?_⟩
 refine hq [10] F s9.drop.drop.drop (QI.ev 1 rfl <| QI.nil) (by kernel_rfl) fun _ F => ?_
 refine CP (by kernel_rfl) ?_
 cases H
 refine ge 2 F rfl fun _ F => ?_
 refine Ak (rs := [.cell 4 226, .tmp 5]) (vs := [.agg ⟨[v3, v4]⟩, jI x2.2]) F (by rfl) ⟨_, _, rfl, Am s9 m0 rfl Em rfl, _, _, rfl, Ao rfl, rfl⟩ ⟨_, rfl, ⟨v3, v4, rfl, s9.drop.f2.drop.f2.drop⟩⟩
theorem RP {w : World} {a0 : A4} {a1 : Int} {r : UInt8 × Int} (H : LL a0 a1 = some r) :
    Calls prog 186 #[.agg ⟨(jI a0.Locals :: jI a0.Height :: AU a0.Slots)⟩, jI a1] w (B9 fun u_ w_ => u_ = .tuple ⟨[jU (r.1.toNat : Int), jI r.2]⟩ ∧ SL w [] w_ []) := by
 have s0 : SL w [] w [] := SL.Bt w
 refine BD func186 ntmps186 2 rfl rfl rfl fun _ F0 => ?_
 unfold LL at H
 refine Ar F0 s0 rfl rfl rfl fun g8 w9 _ F s1 => ?_
 obtain ⟨x0, h0, H⟩ := Aa H
 refine gw 8 F rfl fun _ F => D3 F s1 m0 0 rfl fun _ F => B5 F s1 (Jr h0) 4 rfl rfl rfl rfl fun w0 _ F s2 => AH F H 9 7 rfl rfl rfl (fun h1 H _ F => ?_) (fun h1 H _ F => ?_)
 ·cases H
  exact rt F ⟨rfl, s2.drop⟩
 refine AH F H 9 4 rfl rfl rfl (fun h2 H _ F => ?_) (fun h2 H _ F => ?_)
 ·cases H
  exact rt F ⟨rfl, s2.drop⟩
 refine AG F s2 m0 4 rfl fun _ F => AH F H 9 6 rfl rfl rfl (fun h3 H _ F => ?_) (fun h3 H _ F => ?_)
 ·cases H
  exact rt F ⟨rfl, s2.drop⟩
 obtain ⟨x1, h4, H⟩ := Aa H
 refine AG F s2 m0 1 rfl fun _ F => AG F s2 m0 5 rfl fun _ F => gx F (Ef Db h4 rfl rfl) 0 rfl rfl fun _ F => ?_
 cases H
 exact gx F (An BF rfl (SL.Iu (pre := [jI a0.Locals, jI a0.Height]) s2 m0 rfl h4)) 5 rfl rfl fun _ F => rt F ⟨rfl, s2.drop⟩
end Go.Proofs.YtfcpkcehecmcpaaGreat
