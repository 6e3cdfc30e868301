/- The plain functions. -/
import Derived.Test.YtmeodoidfpcjlaaTy
set_option linter.unusedVariables false
set_option linter.unusedSimpArgs false
namespace Go.Proofs.Ytmeodoidfpcjlaa
open Go Go.RowKit Go.Pv
-- slices.Clone[[]proviso/api.Field,proviso/api.Field]
noncomputable def slices_Clone_api_Field_api_Field (a0 : List S_api_Field) : Option ((List S_api_Field)) :=
  (app 5864062014805 ([] : List S_api_Field) a0).bind fun x61 => some x61
-- proviso/provisoplain.Classes
noncomputable def provisoplain_Classes_b0 (a0 : List S_api_Class) (s2752 : (List S_api_Class) × Int) : Option (((List S_api_Class) × Int) ⊕ (((List S_api_Class)))) :=
  if decide (s2752.2 < (a0.length : Int)) = true then ((idx a0 s2752.2).bind fun x3574 => (slices_Clone_api_Field_api_Field x3574.Fields).bind fun x3618 => (app 2932031007402 s2752.1 ([(⟨x3574.Name, x3574.Parent, x3618⟩ : S_api_Class)] : List S_api_Class)).bind fun x3648 => some (.inl (x3648, wr (s2752.2 + 1)))) else (some (.inr s2752.1))
noncomputable def provisoplain_Classes (a0 : List S_api_Class) : Option ((List S_api_Class)) :=
  (loopO (provisoplain_Classes_b0 a0) ([], 0)).bind fun o2747 => (some o2747)
-- slices.Clone[[]proviso/api.Type,proviso/api.Type]
noncomputable def slices_Clone_api_Type_api_Type (a0 : List UInt8) : Option ((List UInt8)) :=
  (app 140737488355328 ([] : List UInt8) a0).bind fun x61 => some x61
-- proviso/provisoplain.Sig
noncomputable def provisoplain_Sig (a0 : S_api_Sig) : Option S_api_Sig :=
  (slices_Clone_api_Type_api_Type a0.Params).bind fun x45 => some (⟨x45, a0.Result⟩ : S_api_Sig)
-- slices.Clone[[]byte,byte]
noncomputable def slices_Clone_byte_byte (a0 : List UInt8) : Option ((List UInt8)) :=
  (app 140737488355328 ([] : List UInt8) a0).bind fun x61 => some x61
-- proviso/provisoplain.Func
noncomputable def provisoplain_Func (a0 : S_api_Func) : Option S_api_Func :=
  (provisoplain_Sig (⟨a0.Sig.Params, a0.Sig.Result⟩ : S_api_Sig)).bind fun x45 => (slices_Clone_byte_byte a0.Code).bind fun x85 => some (⟨a0.Name, (⟨x45.Params, x45.Result⟩ : S_api_Sig), a0.Locals, x85⟩ : S_api_Func)
-- proviso/provisoplain.Module
noncomputable def provisoplain_Module_b0 (a0 : S_api_Module) (s8947 : (List S_api_Func) × Int) : Option (((List S_api_Func) × Int) ⊕ (((List S_api_Func)))) :=
  if decide (s8947.2 < (a0.Funcs.length : Int)) = true then ((idx a0.Funcs s8947.2).bind fun x11453 => (provisoplain_Func (⟨x11453.Name, (⟨x11453.Sig.Params, x11453.Sig.Result⟩ : S_api_Sig), x11453.Locals, x11453.Code⟩ : S_api_Func)).bind fun x11636 => (app 1759218604441 s8947.1 ([(⟨x11636.Name, (⟨x11636.Sig.Params, x11636.Sig.Result⟩ : S_api_Sig), x11636.Locals, x11636.Code⟩ : S_api_Func)] : List S_api_Func)).bind fun x11657 => some (.inl (x11657, wr (s8947.2 + 1)))) else (some (.inr s8947.1))
noncomputable def provisoplain_Module_b1 (a0 : S_api_Module) (s19441 : (List (List UInt8)) × Int) : Option (((List (List UInt8)) × Int) ⊕ (((List (List UInt8))))) :=
  if decide (s19441.2 < (a0.Certs.length : Int)) = true then ((idx a0.Certs s19441.2).bind fun x21662 => (slices_Clone_byte_byte x21662).bind fun x21824 => (app 5864062014805 s19441.1 ([x21824] : List (List UInt8))).bind fun x21843 => some (.inl (x21843, wr (s19441.2 + 1)))) else (some (.inr s19441.1))
noncomputable def provisoplain_Module (a0 : S_api_Module) : Option S_api_Module :=
  ((provisoplain_Classes a0.Classes).bind fun x258 => some x258).bind fun o249 => ((loopO (provisoplain_Module_b0 a0) ([], 0)).bind fun o8942 => ((loopO (provisoplain_Module_b1 a0) ([], 0)).bind fun o19436 => (some (⟨a0.Name, o249, o8942, o19436⟩ : S_api_Module))))
-- proviso/provisolaw18.part
noncomputable def provisolaw18_part_b0 (a0 : S_api_Part) (s9902 : (List S_api_Import) × Int) : Option (((List S_api_Import) × Int) ⊕ (((List S_api_Import)))) :=
  if decide (s9902.2 < (a0.Imports.length : Int)) = true then ((idx a0.Imports s9902.2).bind fun x12764 => (provisoplain_Sig (⟨x12764.Sig.Params, x12764.Sig.Result⟩ : S_api_Sig)).bind fun x12959 => (app 2932031007402 s9902.1 ([(⟨x12764.Name, (⟨x12959.Params, x12959.Result⟩ : S_api_Sig)⟩ : S_api_Import)] : List S_api_Import)).bind fun x12979 => some (.inl (x12979, wr (s9902.2 + 1)))) else (some (.inr s9902.1))
noncomputable def provisolaw18_part (a0 : S_api_Part) : Option S_api_Part :=
  (provisoplain_Module (⟨a0.Module.Name, a0.Module.Classes, a0.Module.Funcs, a0.Module.Certs⟩ : S_api_Module)).bind fun x58 => (loopO (provisolaw18_part_b0 a0) ([], 0)).bind fun o9897 => (some (⟨(⟨x58.Name, x58.Classes, x58.Funcs, x58.Certs⟩ : S_api_Module), o9897⟩ : S_api_Part))
-- proviso/link.Alone
noncomputable def link_Alone_b0 (a0 : S_api_Module) (s2914 : (List S_api_Class) × Int) : Option (((List S_api_Class) × Int) ⊕ (((List S_api_Class)))) :=
  if decide (s2914.2 < (a0.Classes.length : Int)) = true then ((idx a0.Classes s2914.2).bind fun x3771 => (slices_Clone_api_Field_api_Field x3771.Fields).bind fun x3815 => (app 2932031007402 s2914.1 ([(⟨x3771.Name, x3771.Parent, x3815⟩ : S_api_Class)] : List S_api_Class)).bind fun x3845 => some (.inl (x3845, wr (s2914.2 + 1)))) else (some (.inr s2914.1))
noncomputable def link_Alone_b1 (a0 : S_api_Module) (s39680 : (List S_api_Func) × Int) : Option (((List S_api_Func) × Int) ⊕ (((List S_api_Func)))) :=
  if decide (s39680.2 < (a0.Funcs.length : Int)) = true then ((idx a0.Funcs s39680.2).bind fun x50150 => ((slices_Clone_api_Type_api_Type x50150.Sig.Params).bind fun x51202 => (slices_Clone_byte_byte x50150.Code).bind fun x51213 => some (x51202, x51213)).bind fun o51108 => ((app 1759218604441 s39680.1 ([(⟨x50150.Name, (⟨o51108.1, x50150.Sig.Result⟩ : S_api_Sig), x50150.Locals, o51108.2⟩ : S_api_Func)] : List S_api_Func)).bind fun x51595 => some (.inl (x51595, wr (s39680.2 + 1))))) else (some (.inr s39680.1))
noncomputable def link_Alone (a0 : S_api_Module) : Option S_api_Part :=
  (loopO (link_Alone_b0 a0) ([], 0)).bind fun o2909 => ((loopO (link_Alone_b1 a0) ([], 0)).bind fun o39675 => (some (⟨(⟨a0.Name, o2909, o39675, []⟩ : S_api_Module), []⟩ : S_api_Part)))
-- slices.Equal[[]proviso/api.Field,proviso/api.Field]
noncomputable def slices_Equal_api_Field_api_Field_b0 (a0 : List S_api_Field) (a1 : List S_api_Field) (s1067 : Int) : Option (Int ⊕ (Bool ⊕ Unit)) :=
  if decide (s1067 < (a0.length : Int)) = true then ((idx a0 s1067).bind fun x1387 => (idx a1 s1067).bind fun x1392 => if (!((x1387.Name == x1392.Name) && ((x1387.Type_ == x1392.Type_) && true))) = true then (some (.inr (.inl false))) else (some (.inl (wr (s1067 + 1))))) else (some (.inr (.inr (()))))
noncomputable def slices_Equal_api_Field_api_Field (a0 : List S_api_Field) (a1 : List S_api_Field) : Option Bool :=
  if ((a0.length : Int) != (a1.length : Int)) = true then (some false) else ((loopO (slices_Equal_api_Field_api_Field_b0 a0 a1) 0).bind fun o1063 => (match o1063 with | .inl p1416 => (some p1416) | .inr p1066 => (some true)))
-- proviso/provisoplain.SameClasses
noncomputable def provisoplain_SameClasses_b0 (a0 : List S_api_Class) (a1 : List S_api_Class) (s2555 : Int) : Option (Int ⊕ (Bool ⊕ Unit)) :=
  if decide (s2555 < (a0.length : Int)) = true then ((idx a0 s2555).bind fun x3295 => (idx a1 s2555).bind fun x3306 => if (x3295.Name != x3306.Name) = true then (some (.inr (.inl false))) else ((idx a0 s2555).bind fun x3326 => (idx a1 s2555).bind fun x3337 => if (x3326.Parent != x3337.Parent) = true then (some (.inr (.inl false))) else ((idx a0 s2555).bind fun x3357 => (idx a1 s2555).bind fun x3368 => (slices_Equal_api_Field_api_Field x3357.Fields x3368.Fields).bind fun x3379 => if (!x3379) = true then (some (.inr (.inl false))) else (some (.inl (wr (s2555 + 1))))))) else (some (.inr (.inr (()))))
noncomputable def provisoplain_SameClasses (a0 : List S_api_Class) (a1 : List S_api_Class) : Option Bool :=
  if ((a0.length : Int) != (a1.length : Int)) = true then (some false) else ((loopO (provisoplain_SameClasses_b0 a0 a1) 0).bind fun o2551 => (match o2551 with | .inl p3400 => (some p3400) | .inr p2554 => (some true)))
-- slices.Equal[[]proviso/api.Type,proviso/api.Type]
noncomputable def slices_Equal_api_Type_api_Type_b0 (a0 : List UInt8) (a1 : List UInt8) (s1067 : Int) : Option (Int ⊕ (Bool ⊕ Unit)) :=
  if decide (s1067 < (a0.length : Int)) = true then ((idx a0 s1067).bind fun x1387 => (idx a1 s1067).bind fun x1392 => if ((x1387.toNat : Int) != (x1392.toNat : Int)) = true then (some (.inr (.inl false))) else (some (.inl (wr (s1067 + 1))))) else (some (.inr (.inr (()))))
noncomputable def slices_Equal_api_Type_api_Type (a0 : List UInt8) (a1 : List UInt8) : Option Bool :=
  if ((a0.length : Int) != (a1.length : Int)) = true then (some false) else ((loopO (slices_Equal_api_Type_api_Type_b0 a0 a1) 0).bind fun o1063 => (match o1063 with | .inl p1416 => (some p1416) | .inr p1066 => (some true)))
-- proviso/provisoplain.SameSig
noncomputable def provisoplain_SameSig (a0 : S_api_Sig) (a1 : S_api_Sig) : Option Bool :=
  if ((a0.Result.toNat : Int) == (a1.Result.toNat : Int)) = true then ((slices_Equal_api_Type_api_Type a0.Params a1.Params).bind fun x74 => some x74) else (some false)
-- slices.Equal[[]byte,byte]
noncomputable def slices_Equal_byte_byte_b0 (a0 : List UInt8) (a1 : List UInt8) (s1067 : Int) : Option (Int ⊕ (Bool ⊕ Unit)) :=
  if decide (s1067 < (a0.length : Int)) = true then ((idx a0 s1067).bind fun x1387 => (idx a1 s1067).bind fun x1392 => if ((x1387.toNat : Int) != (x1392.toNat : Int)) = true then (some (.inr (.inl false))) else (some (.inl (wr (s1067 + 1))))) else (some (.inr (.inr (()))))
noncomputable def slices_Equal_byte_byte (a0 : List UInt8) (a1 : List UInt8) : Option Bool :=
  if ((a0.length : Int) != (a1.length : Int)) = true then (some false) else ((loopO (slices_Equal_byte_byte_b0 a0 a1) 0).bind fun o1063 => (match o1063 with | .inl p1416 => (some p1416) | .inr p1066 => (some true)))
-- proviso/provisoplain.SameFunc
noncomputable def provisoplain_SameFunc (a0 : S_api_Func) (a1 : S_api_Func) : Option Bool :=
  if (a0.Name == a1.Name) = true then ((provisoplain_SameSig (⟨a0.Sig.Params, a0.Sig.Result⟩ : S_api_Sig) (⟨a1.Sig.Params, a1.Sig.Result⟩ : S_api_Sig)).bind fun x167 => if x167 = true then (if (a0.Locals == a1.Locals) = true then ((slices_Equal_byte_byte a0.Code a1.Code).bind fun x200 => some x200) else (some false)) else (some false)) else (some false)
-- proviso/provisoplain.SameModule
noncomputable def provisoplain_SameModule_b0 (a0 : S_api_Module) (a1 : S_api_Module) (s2275 : Int) : Option (Int ⊕ (Bool ⊕ Unit)) :=
  if decide (s2275 < (a0.Funcs.length : Int)) = true then ((idx a0.Funcs s2275).bind fun x2865 => (idx a1.Funcs s2275).bind fun x2878 => (provisoplain_SameFunc x2865 x2878).bind fun x2891 => if (!x2891) = true then (some (.inr (.inl false))) else (some (.inl (wr (s2275 + 1))))) else (some (.inr (.inr (()))))
noncomputable def provisoplain_SameModule_b1 (a0 : S_api_Module) (a1 : S_api_Module) (s4624 : Int) : Option (Int ⊕ (Bool ⊕ Unit)) :=
  if decide (s4624 < (a0.Certs.length : Int)) = true then ((idx a0.Certs s4624).bind fun x5154 => (idx a1.Certs s4624).bind fun x5165 => (slices_Equal_byte_byte x5154 x5165).bind fun x5176 => if (!x5176) = true then (some (.inr (.inl false))) else (some (.inl (wr (s4624 + 1))))) else (some (.inr (.inr (()))))
noncomputable def provisoplain_SameModule (a0 : S_api_Module) (a1 : S_api_Module) : Option Bool :=
  if (a0.Name != a1.Name) = true then (some false) else ((provisoplain_SameClasses a0.Classes a1.Classes).bind fun x259 => if (!x259) = true then (some false) else (if ((a0.Funcs.length : Int) != (a1.Funcs.length : Int)) = true then (some false) else (if ((a0.Certs.length : Int) != (a1.Certs.length : Int)) = true then (some false) else ((loopO (provisoplain_SameModule_b0 a0 a1) 0).bind fun o2271 => (match o2271 with | .inl p5198 => (some p5198) | .inr p2274 => ((loopO (provisoplain_SameModule_b1 a0 a1) 0).bind fun o4620 => (match o4620 with | .inl p5197 => (some p5197) | .inr p4623 => (some true))))))))
-- proviso/provisolaw18.samePart
noncomputable def provisolaw18_samePart_b0 (a0 : S_api_Part) (a1 : S_api_Part) (s2551 : Int) : Option (Int ⊕ (Bool ⊕ Unit)) :=
  if decide (s2551 < (a0.Imports.length : Int)) = true then ((idx a0.Imports s2551).bind fun x3278 => (idx a1.Imports s2551).bind fun x3304 => if (x3278.Name != x3304.Name) = true then (some (.inr (.inl false))) else ((idx a1.Imports s2551).bind fun x3324 => (provisoplain_SameSig (⟨x3278.Sig.Params, x3278.Sig.Result⟩ : S_api_Sig) (⟨x3324.Sig.Params, x3324.Sig.Result⟩ : S_api_Sig)).bind fun x3335 => if (!x3335) = true then (some (.inr (.inl false))) else (some (.inl (wr (s2551 + 1)))))) else (some (.inr (.inr (()))))
noncomputable def provisolaw18_samePart (a0 : S_api_Part) (a1 : S_api_Part) : Option Bool :=
  (provisoplain_SameModule (⟨a0.Module.Name, a0.Module.Classes, a0.Module.Funcs, a0.Module.Certs⟩ : S_api_Module) (⟨a1.Module.Name, a1.Module.Classes, a1.Module.Funcs, a1.Module.Certs⟩ : S_api_Module)).bind fun x84 => if (!x84) = true then (some false) else (if ((a0.Imports.length : Int) != (a1.Imports.length : Int)) = true then (some false) else ((loopO (provisolaw18_samePart_b0 a0 a1) 0).bind fun o2547 => (match o2547 with | .inl p3356 => (some p3356) | .inr p2550 => (some true))))
-- proviso/code.widths
noncomputable def code_widths (a0 : UInt8) : Option (Int × Int) :=
  if ((a0.toNat : Int) == 1) = true then (some (4, 0)) else ((if ((a0.toNat : Int) == 19) = true then (some ((a0.toNat : Int) == 19)) else (some ((a0.toNat : Int) == 20))).bind fun o14067 => (if o14067 = true then (some (2, 0)) else ((if ((a0.toNat : Int) == 24) = true then (some ((a0.toNat : Int) == 24)) else (some ((a0.toNat : Int) == 25))).bind fun o14119 => (if o14119 = true then (some (1, 1)) else ((if ((a0.toNat : Int) == 2) = true then (some ((a0.toNat : Int) == 2)) else (if ((a0.toNat : Int) == 4) = true then (some ((a0.toNat : Int) == 4)) else (some ((a0.toNat : Int) == 5)))).bind fun o14191 => (if o14191 = true then (some (1, 0)) else ((if ((a0.toNat : Int) == 21) = true then (some ((a0.toNat : Int) == 21)) else (if ((a0.toNat : Int) == 23) = true then (some ((a0.toNat : Int) == 23)) else (if ((a0.toNat : Int) == 30) = true then (some ((a0.toNat : Int) == 30)) else (if ((a0.toNat : Int) == 31) = true then (some ((a0.toNat : Int) == 31)) else (some ((a0.toNat : Int) == 32)))))).bind fun o14263 => (if o14263 = true then (some (1, 0)) else (some (0, 0))))))))))
-- proviso/code.Size
noncomputable def code_Size (a0 : UInt8) : Option Int :=
  if decide ((a0.toNat : Int) ≥ 34) = true then (some 0) else ((code_widths a0).bind fun x36 => some (wr ((wr (1 + x36.1)) + x36.2)))
-- proviso/code.Decode$1
noncomputable def code_Decode_1_s0_b0 (x389 : List UInt8) (s574 : Int × Int) : Option ((Int × Int) ⊕ Int) :=
  if decide (s574.2 < (x389.length : Int)) = true then ((idx x389 s574.2).bind fun x736 => some (.inl (bOr .i64 (sShl .i64 s574.1 8) (x736.toNat : Int), wr (s574.2 + 1)))) else (some (.inr s574.1))
noncomputable def code_Decode_1_s0 (a0 : Int) (a1 : List UInt8) : Option (Int × (List UInt8)) :=
  (cutL a1 0 a0).bind fun x389 => (loopO (code_Decode_1_s0_b0 x389) (0, 0)).bind fun o571 => ((cutL a1 a0 (a1.length : Int)).bind fun x765 => if (a0 == 4) = true then (some (wr (IntKind.i32.wrap o571), x765)) else (some (o571, x765)))
-- proviso/code.Decode
noncomputable def code_Decode (a0 : List UInt8) (a1 : Int) : Option (S_api_Instr × Int) :=
  if decide (a1 < 0) = true then (some ((⟨0, 0, 0, 0⟩ : S_api_Instr), 1)) else (if decide (a1 > (a0.length : Int)) = true then (some ((⟨0, 0, 0, 0⟩ : S_api_Instr), 1)) else (if (a1 == (a0.length : Int)) = true then (some ((⟨0, 0, 0, 0⟩ : S_api_Instr), 2)) else ((idx a0 a1).bind fun x337 => (code_Size x337).bind fun x342 => if (x342 == 0) = true then (some ((⟨0, 0, 0, 0⟩ : S_api_Instr), 40)) else ((idx a0 a1).bind fun x392 => (code_Size x392).bind fun x397 => if decide ((wr ((a0.length : Int) - a1)) < x397) = true then (some ((⟨0, 0, 0, 0⟩ : S_api_Instr), 2)) else ((idx a0 a1).bind fun x447 => (cutL a0 (wr (a1 + 1)) (a0.length : Int)).bind fun x483 => (code_widths x447).bind fun x518 => (code_Decode_1_s0 x518.1 x483).bind fun x558 => (code_Decode_1_s0 x518.2 x558.2).bind fun x612 => if ((x447.toNat : Int) == 2) = true then (if decide (x558.1 > 1) = true then (some ((⟨0, 0, 0, 0⟩ : S_api_Instr), 5)) else (some ((⟨a1, x447, x558.1, x612.1⟩ : S_api_Instr), 0))) else (some ((⟨a1, x447, x558.1, x612.1⟩ : S_api_Instr), 0)))))))
-- proviso/flow.Scan
noncomputable def flow_Scan_b0 (a0 : List UInt8) (s1657 : (List S_api_Instr) × Int) : Option (((List S_api_Instr) × Int) ⊕ (((List S_api_Instr) × Int × Int) ⊕ ((List S_api_Instr)))) :=
  if decide (s1657.2 < (a0.length : Int)) = true then ((code_Decode a0 s1657.2).bind fun x2099 => if (x2099.2 != 0) = true then (some (.inr (.inl (([] : List S_api_Instr), s1657.2, x2099.2)))) else ((app 4398046511104 s1657.1 ([(⟨x2099.1.At, x2099.1.Op, x2099.1.A, x2099.1.B⟩ : S_api_Instr)] : List S_api_Instr)).bind fun x2169 => (code_Size x2099.1.Op).bind fun x2179 => some (.inl (x2169, wr (s1657.2 + x2179))))) else (some (.inr (.inr (s1657.1))))
noncomputable def flow_Scan (a0 : List UInt8) : Option ((List S_api_Instr) × Int × Int) :=
  if decide ((a0.length : Int) > 4096) = true then (some (([] : List S_api_Instr), 0, 4)) else ((loopO (flow_Scan_b0 a0) ([], 0)).bind fun o1651 => (match o1651 with | .inl p2200 => (some p2200) | .inr p1654 => (some (p1654, 0, 0))))
-- slices.Index[[]int,int]
noncomputable def slices_Index_int_int_b0 (a0 : List Int) (a1 : Int) (s713 : Int) : Option (Int ⊕ (Int ⊕ Unit)) :=
  if decide (s713 < (a0.length : Int)) = true then ((idx a0 s713).bind fun x928 => if (a1 == x928) = true then (some (.inr (.inl s713))) else (some (.inl (wr (s713 + 1))))) else (some (.inr (.inr (()))))
noncomputable def slices_Index_int_int (a0 : List Int) (a1 : Int) : Option Int :=
  (loopO (slices_Index_int_int_b0 a0 a1) 0).bind fun o709 => (match o709 with | .inl p950 => (some p950) | .inr p712 => (some (-1)))
-- slices.Contains[[]int,int]
noncomputable def slices_Contains_int_int (a0 : List Int) (a1 : Int) : Option Bool :=
  (slices_Index_int_int a0 a1).bind fun x18 => some (decide (x18 ≥ 0))
-- proviso/link.Free
noncomputable def link_Free_b0 (a0 : S_api_Part) (x87860 : (List S_api_Instr) × Int × Int) (s89255 : (List Int) × Int) : Option (((List Int) × Int) ⊕ (((List Int)))) :=
  if decide (s89255.2 < (x87860.1.length : Int)) = true then ((idx x87860.1 s89255.2).bind fun x90457 => if ((x90457.Op.toNat : Int) == 21) = true then (if decide ((wr (x90457.A - (a0.Module.Funcs.length : Int))) ≥ 0) = true then (if decide ((wr (x90457.A - (a0.Module.Funcs.length : Int))) < (a0.Imports.length : Int)) = true then ((slices_Contains_int_int s89255.1 (wr (x90457.A - (a0.Module.Funcs.length : Int)))).bind fun x90506 => if (!x90506) = true then ((app 17592186044416 s89255.1 ([wr (x90457.A - (a0.Module.Funcs.length : Int))] : List Int)).bind fun x90528 => some (.inl (x90528, wr (s89255.2 + 1)))) else (some (.inl (s89255.1, wr (s89255.2 + 1))))) else (some (.inl (s89255.1, wr (s89255.2 + 1))))) else (some (.inl (s89255.1, wr (s89255.2 + 1))))) else (some (.inl (s89255.1, wr (s89255.2 + 1))))) else (some (.inr s89255.1))
noncomputable def link_Free_b1 (a0 : S_api_Part) (s67973 : (List Int) × Int) : Option (((List Int) × Int) ⊕ (((List Int) × Int × Int) ⊕ ((List Int)))) :=
  if decide (s67973.2 < (a0.Module.Funcs.length : Int)) = true then ((idx a0.Module.Funcs s67973.2).bind fun x87817 => (flow_Scan x87817.Code).bind fun x87860 => if (x87860.2.2 != 0) = true then (some (.inr (.inl (([] : List Int), s67973.2, x87860.2.2)))) else ((loopO (link_Free_b0 a0 x87860) (s67973.1, 0)).bind fun o89250 => (some (.inl (o89250, wr (s67973.2 + 1)))))) else (some (.inr (.inr (s67973.1))))
noncomputable def link_Free (a0 : S_api_Part) : Option ((List Int) × Int × Int) :=
  (loopO (link_Free_b1 a0) ([], 0)).bind fun o67967 => (match o67967 with | .inl p90656 => (some p90656) | .inr p67970 => ((sortO p67970).bind fun x90635 => some (x90635, 0, 0)))
-- proviso/provisoref04.wide
noncomputable def provisoref04_wide (a0 : UInt8) : Option (Int × Int) :=
  if ((a0.toNat : Int) == 1) = true then (some (4, 0)) else ((if ((a0.toNat : Int) == 19) = true then (some ((a0.toNat : Int) == 19)) else (some ((a0.toNat : Int) == 20))).bind fun o234 => (if o234 = true then (some (2, 0)) else ((if ((a0.toNat : Int) == 24) = true then (some ((a0.toNat : Int) == 24)) else (some ((a0.toNat : Int) == 25))).bind fun o267 => (if o267 = true then (some (1, 1)) else ((if ((a0.toNat : Int) == 2) = true then (some ((a0.toNat : Int) == 2)) else (if ((a0.toNat : Int) == 4) = true then (some ((a0.toNat : Int) == 4)) else (if ((a0.toNat : Int) == 5) = true then (some ((a0.toNat : Int) == 5)) else (if ((a0.toNat : Int) == 21) = true then (some ((a0.toNat : Int) == 21)) else (if ((a0.toNat : Int) == 23) = true then (some ((a0.toNat : Int) == 23)) else (if ((a0.toNat : Int) == 30) = true then (some ((a0.toNat : Int) == 30)) else (if ((a0.toNat : Int) == 31) = true then (some ((a0.toNat : Int) == 31)) else (some ((a0.toNat : Int) == 32))))))))).bind fun o360 => (if o360 = true then (some (1, 0)) else (some (0, 0))))))))
-- proviso/provisoref04.Size
noncomputable def provisoref04_Size (a0 : UInt8) : Option Int :=
  if decide ((a0.toNat : Int) ≥ 34) = true then (some 0) else ((provisoref04_wide a0).bind fun x36 => some (wr ((wr (1 + x36.1)) + x36.2)))
-- proviso/provisoref04.take
noncomputable def provisoref04_take_b0 (a0 : List UInt8) (a1 : Int) (s378 : Int × Int) : Option ((Int × Int) ⊕ Int) :=
  if decide (s378.2 < a1) = true then ((idx a0 s378.2).bind fun x486 => some (.inl (wr ((wr (256 * s378.1)) + (x486.toNat : Int)), wr (s378.2 + 1)))) else (some (.inr s378.1))
noncomputable def provisoref04_take (a0 : List UInt8) (a1 : Int) : Option Int :=
  (loopO (provisoref04_take_b0 a0 a1) (0, 0)).bind fun o375 => (if (a1 == 4) = true then (if decide (o375 > 2147483647) = true then (some (wr (o375 - 4294967296))) else (some o375)) else (some o375))
-- proviso/provisoref04.Decode
noncomputable def provisoref04_Decode (a0 : List UInt8) (a1 : Int) : Option (S_api_Instr × Int) :=
  if decide (a1 < 0) = true then (some ((⟨0, 0, 0, 0⟩ : S_api_Instr), 1)) else (if decide (a1 > (a0.length : Int)) = true then (some ((⟨0, 0, 0, 0⟩ : S_api_Instr), 1)) else (if (a1 == (a0.length : Int)) = true then (some ((⟨0, 0, 0, 0⟩ : S_api_Instr), 2)) else ((idx a0 a1).bind fun x202 => (provisoref04_Size x202).bind fun x222 => if (x222 == 0) = true then (some ((⟨0, 0, 0, 0⟩ : S_api_Instr), 40)) else (if decide ((wr ((a0.length : Int) - a1)) < x222) = true then (some ((⟨0, 0, 0, 0⟩ : S_api_Instr), 2)) else ((provisoref04_wide x202).bind fun x340 => ((cutL a0 (wr (a1 + 1)) (a0.length : Int)).bind fun x818 => (provisoref04_take x818 x340.1).bind fun x823 => (cutL a0 (wr ((wr (a1 + 1)) + x340.1)) (a0.length : Int)).bind fun x832 => (provisoref04_take x832 x340.2).bind fun x837 => some (x823, x837)).bind fun o799 => (if ((x202.toNat : Int) == 2) = true then (if decide (o799.1 > 1) = true then (some ((⟨0, 0, 0, 0⟩ : S_api_Instr), 5)) else (some ((⟨a1, x202, o799.1, o799.2⟩ : S_api_Instr), 0))) else (some ((⟨a1, x202, o799.1, o799.2⟩ : S_api_Instr), 0))))))))
-- proviso/provisoref05.Scan
noncomputable def provisoref05_Scan_b0 (a0 : List UInt8) (s1657 : (List S_api_Instr) × Int) : Option (((List S_api_Instr) × Int) ⊕ (((List S_api_Instr) × Int × Int) ⊕ ((List S_api_Instr)))) :=
  if decide (s1657.2 < (a0.length : Int)) = true then ((provisoref04_Decode a0 s1657.2).bind fun x2099 => if (x2099.2 != 0) = true then (some (.inr (.inl (([] : List S_api_Instr), s1657.2, x2099.2)))) else ((app 4398046511104 s1657.1 ([(⟨x2099.1.At, x2099.1.Op, x2099.1.A, x2099.1.B⟩ : S_api_Instr)] : List S_api_Instr)).bind fun x2169 => (provisoref04_Size x2099.1.Op).bind fun x2179 => some (.inl (x2169, wr (s1657.2 + x2179))))) else (some (.inr (.inr (s1657.1))))
noncomputable def provisoref05_Scan (a0 : List UInt8) : Option ((List S_api_Instr) × Int × Int) :=
  if decide ((a0.length : Int) > 4096) = true then (some (([] : List S_api_Instr), 0, 4)) else ((loopO (provisoref05_Scan_b0 a0) ([], 0)).bind fun o1651 => (match o1651 with | .inl p2200 => (some p2200) | .inr p1654 => (some (p1654, 0, 0))))
-- proviso/provisoref18.Free
noncomputable def provisoref18_Free_b0 (a0 : S_api_Part) (x48756 : (List S_api_Instr) × Int × Int) (s49535 : (List Bool) × Int) : Option (((List Bool) × Int) ⊕ (((List Bool)))) :=
  if decide (s49535.2 < (x48756.1.length : Int)) = true then ((idx x48756.1 s49535.2).bind fun x50192 => (idx x48756.1 s49535.2).bind fun x50201 => if ((x50201.Op.toNat : Int) == 21) = true then (if decide ((wr (x50192.A - (a0.Module.Funcs.length : Int))) ≥ 0) = true then (if decide ((wr (x50192.A - (a0.Module.Funcs.length : Int))) < (s49535.1.length : Int)) = true then ((idx s49535.1 (wr (x50192.A - (a0.Module.Funcs.length : Int)))).bind fun x50227 => some (.inl ((s49535.1.set (wr (x50192.A - (a0.Module.Funcs.length : Int))).toNat true), wr (s49535.2 + 1)))) else (some (.inl (s49535.1, wr (s49535.2 + 1))))) else (some (.inl (s49535.1, wr (s49535.2 + 1))))) else (some (.inl (s49535.1, wr (s49535.2 + 1))))) else (some (.inr s49535.1))
noncomputable def provisoref18_Free_b1 (a0 : S_api_Part) (s37725 : (List Bool) × Int) : Option (((List Bool) × Int) ⊕ (((List Int) × Int × Int) ⊕ ((List Bool)))) :=
  if decide (s37725.2 < (a0.Module.Funcs.length : Int)) = true then ((idx a0.Module.Funcs s37725.2).bind fun x48743 => (provisoref05_Scan x48743.Code).bind fun x48756 => if (x48756.2.2 != 0) = true then (some (.inr (.inl (([] : List Int), s37725.2, x48756.2.2)))) else ((loopO (provisoref18_Free_b0 a0 x48756) (s37725.1, 0)).bind fun o49530 => (some (.inl (o49530, wr (s37725.2 + 1)))))) else (some (.inr (.inr (s37725.1))))
noncomputable def provisoref18_Free_b2 (p37722 : (List Bool)) (s51325 : (List Int) × Int) : Option (((List Int) × Int) ⊕ (((List Int)))) :=
  if decide (s51325.2 < (p37722.length : Int)) = true then ((idx p37722 s51325.2).bind fun x51634 => if x51634 = true then ((app 17592186044416 s51325.1 ([s51325.2] : List Int)).bind fun x51650 => some (.inl (x51650, wr (s51325.2 + 1)))) else (some (.inl (s51325.1, wr (s51325.2 + 1))))) else (some (.inr s51325.1))
noncomputable def provisoref18_Free (a0 : S_api_Part) : Option ((List Int) × Int × Int) :=
  (mkO 1 (a0.Imports.length : Int) false).bind fun x29 => (loopO (provisoref18_Free_b1 a0) (x29, 0)).bind fun o37719 => (match o37719 with | .inl p51672 => (some p51672) | .inr p37722 => ((loopO (provisoref18_Free_b2 p37722) ([], 0)).bind fun o51320 => (some (o51320, 0, 0))))
-- slices.Equal[[]int,int]
noncomputable def slices_Equal_int_int_b0 (a0 : List Int) (a1 : List Int) (s1067 : Int) : Option (Int ⊕ (Bool ⊕ Unit)) :=
  if decide (s1067 < (a0.length : Int)) = true then ((idx a0 s1067).bind fun x1387 => (idx a1 s1067).bind fun x1392 => if (x1387 != x1392) = true then (some (.inr (.inl false))) else (some (.inl (wr (s1067 + 1))))) else (some (.inr (.inr (()))))
noncomputable def slices_Equal_int_int (a0 : List Int) (a1 : List Int) : Option Bool :=
  if ((a0.length : Int) != (a1.length : Int)) = true then (some false) else ((loopO (slices_Equal_int_int_b0 a0 a1) 0).bind fun o1063 => (match o1063 with | .inl p1416 => (some p1416) | .inr p1066 => (some true)))
-- proviso/provisolaw18.LinkFrees
noncomputable def provisolaw18_LinkFrees_b0 (s17198 : (List S_api_Func) × Int) (x22156 : S_api_Func) (s22504 : (List S_api_Func) × Int) : Option (((List S_api_Func) × Int) ⊕ (((List S_api_Func)))) :=
  if decide (s22504.2 < (x22156.Code.length : Int)) = true then ((idx s22504.1 s17198.2).bind fun x22793 => (idx x22793.Code s22504.2).bind fun x22812 => some (.inl ((s22504.1.set s17198.2.toNat (⟨x22793.Name, (⟨x22793.Sig.Params, x22793.Sig.Result⟩ : S_api_Sig), x22793.Locals, (x22793.Code.set s22504.2.toNat (255 : UInt8))⟩ : S_api_Func)), wr (s22504.2 + 1)))) else (some (.inr s22504.1))
noncomputable def provisolaw18_LinkFrees_b1 (x107 : S_api_Part) (s17198 : (List S_api_Func) × Int) : Option (((List S_api_Func) × Int) ⊕ (((List S_api_Func)))) :=
  if decide (s17198.2 < (x107.Module.Funcs.length : Int)) = true then ((idx s17198.1 s17198.2).bind fun x22156 => (loopO (provisolaw18_LinkFrees_b0 s17198 x22156) ((s17198.1.set s17198.2.toNat (⟨x22156.Name, (⟨x22156.Sig.Params, x22156.Sig.Result⟩ : S_api_Sig), x22156.Locals, x22156.Code⟩ : S_api_Func)), 0)).bind fun o22499 => (some (.inl (o22499, wr (s17198.2 + 1))))) else (some (.inr s17198.1))
noncomputable def provisolaw18_LinkFrees (a0 : S_api_Part) : Option Bool :=
  (provisolaw18_part (⟨(⟨a0.Module.Name, a0.Module.Classes, a0.Module.Funcs, a0.Module.Certs⟩ : S_api_Module), a0.Imports⟩ : S_api_Part)).bind fun x47 => (link_Alone (⟨x47.Module.Name, x47.Module.Classes, x47.Module.Funcs, x47.Module.Certs⟩ : S_api_Module)).bind fun x107 => (provisoplain_Module (⟨a0.Module.Name, a0.Module.Classes, a0.Module.Funcs, a0.Module.Certs⟩ : S_api_Module)).bind fun x165 => (provisolaw18_samePart (⟨(⟨x107.Module.Name, x107.Module.Classes, x107.Module.Funcs, x107.Module.Certs⟩ : S_api_Module), x107.Imports⟩ : S_api_Part) (⟨(⟨x165.Name, x165.Classes, x165.Funcs, []⟩ : S_api_Module), []⟩ : S_api_Part)).bind fun x259 => if (!x259) = true then (some false) else ((loopO (provisolaw18_LinkFrees_b1 x107) (x107.Module.Funcs, 0)).bind fun o17193 => ((link_Free (⟨(⟨x47.Module.Name, x47.Module.Classes, x47.Module.Funcs, x47.Module.Certs⟩ : S_api_Module), x47.Imports⟩ : S_api_Part)).bind fun x22850 => (provisoref18_Free (⟨(⟨a0.Module.Name, a0.Module.Classes, a0.Module.Funcs, a0.Module.Certs⟩ : S_api_Module), a0.Imports⟩ : S_api_Part)).bind fun x22880 => (slices_Equal_int_int x22850.1 x22880.1).bind fun x22990 => if x22990 = true then (if (x22850.2.1 == x22880.2.1) = true then (if (x22850.2.2 == x22880.2.2) = true then ((provisolaw18_samePart (⟨(⟨x47.Module.Name, x47.Module.Classes, x47.Module.Funcs, x47.Module.Certs⟩ : S_api_Module), x47.Imports⟩ : S_api_Part) (⟨(⟨a0.Module.Name, a0.Module.Classes, a0.Module.Funcs, a0.Module.Certs⟩ : S_api_Module), a0.Imports⟩ : S_api_Part)).bind fun x23026 => some x23026) else (some false)) else (some false)) else (some false)))
end Go.Proofs.Ytmeodoidfpcjlaa
