/- The plain functions. -/
import Derived.Test.YtfepcangbajjjaaTy
set_option linter.unusedVariables false
set_option linter.unusedSimpArgs false
namespace Go.Proofs.Ytfepcangbajjjaa
open Go Go.RowKit Go.Pv
-- proviso/code.widths
noncomputable def code_widths (a0 : UInt8) : Option (Int × Int) :=
  if ((a0.toNat : Int) == 1) = true then (some (4, 0)) else ((if ((a0.toNat : Int) == 19) = true then (some ((a0.toNat : Int) == 19)) else (some ((a0.toNat : Int) == 20))).bind fun o14067 => (if o14067 = true then (some (2, 0)) else ((if ((a0.toNat : Int) == 24) = true then (some ((a0.toNat : Int) == 24)) else (some ((a0.toNat : Int) == 25))).bind fun o14119 => (if o14119 = true then (some (1, 1)) else ((if ((a0.toNat : Int) == 2) = true then (some ((a0.toNat : Int) == 2)) else (if ((a0.toNat : Int) == 4) = true then (some ((a0.toNat : Int) == 4)) else (some ((a0.toNat : Int) == 5)))).bind fun o14191 => (if o14191 = true then (some (1, 0)) else ((if ((a0.toNat : Int) == 21) = true then (some ((a0.toNat : Int) == 21)) else (if ((a0.toNat : Int) == 23) = true then (some ((a0.toNat : Int) == 23)) else (if ((a0.toNat : Int) == 30) = true then (some ((a0.toNat : Int) == 30)) else (if ((a0.toNat : Int) == 31) = true then (some ((a0.toNat : Int) == 31)) else (some ((a0.toNat : Int) == 32)))))).bind fun o14263 => (if o14263 = true then (some (1, 0)) else (some (0, 0))))))))))
-- proviso/code.Size
noncomputable def code_Size (a0 : UInt8) : Option Int :=
  if decide ((a0.toNat : Int) ≥ 34) = true then (some 0) else ((code_widths a0).bind fun x36 => some (wr ((wr (1 + x36.1)) + x36.2)))
-- proviso/code.Decode$1
noncomputable def code_Decode_1_s0_b0 (x389 : List UInt8) (s574 : Int × Int) : Option ((Int × Int) ⊕ Int) :=
  if decide (s574.2 < (x389.length : Int)) = true then ((idx x389 s574.2).bind fun x736 => some (.inl (bOr .i64 (sShl .i64 s574.1 8) (x736.toNat : Int), wr (s574.2 + 1)))) else (some (.inr s574.1))
noncomputable def code_Decode_1_s0 (a0 : Int) (a1 : List UInt8) : Option (Int × (List UInt8)) :=
  (cutL a1 0 a0).bind fun x389 => (loopO (code_Decode_1_s0_b0 x389) (0, 0)).bind fun o571 => ((cutL a1 a0 (a1.length : Int)).bind fun x765 => if (a0 == 4) = true then (some (wr (IntKind.i32.wrap o571), x765)) else (some (o571, x765)))
-- proviso/code.Decode
noncomputable def code_Decode (a0 : List UInt8) (a1 : Int) : Option (S_api_Instr × Int) :=
  if decide (a1 < 0) = true then (some ((⟨0, 0, 0, 0⟩ : S_api_Instr), 1)) else (if decide (a1 > (a0.length : Int)) = true then (some ((⟨0, 0, 0, 0⟩ : S_api_Instr), 1)) else (if (a1 == (a0.length : Int)) = true then (some ((⟨0, 0, 0, 0⟩ : S_api_Instr), 2)) else ((idx a0 a1).bind fun x337 => (code_Size x337).bind fun x342 => if (x342 == 0) = true then (some ((⟨0, 0, 0, 0⟩ : S_api_Instr), 40)) else ((idx a0 a1).bind fun x392 => (code_Size x392).bind fun x397 => if decide ((wr ((a0.length : Int) - a1)) < x397) = true then (some ((⟨0, 0, 0, 0⟩ : S_api_Instr), 2)) else ((idx a0 a1).bind fun x447 => (cutL a0 (wr (a1 + 1)) (a0.length : Int)).bind fun x483 => (code_widths x447).bind fun x518 => (code_Decode_1_s0 x518.1 x483).bind fun x558 => (code_Decode_1_s0 x518.2 x558.2).bind fun x612 => if ((x447.toNat : Int) == 2) = true then (if decide (x558.1 > 1) = true then (some ((⟨0, 0, 0, 0⟩ : S_api_Instr), 5)) else (some ((⟨a1, x447, x558.1, x612.1⟩ : S_api_Instr), 0))) else (some ((⟨a1, x447, x558.1, x612.1⟩ : S_api_Instr), 0)))))))
-- proviso/types.Fields$1
noncomputable def types_Fields_1_s2 (a0 : Int) (a1 : List Int) : Option (Bool × (List Int)) :=
  (app 17592186044416 a1 ([a0] : List Int)).bind fun x34 => some (true, x34)
-- proviso/types.climb
noncomputable def types_climb_s1_b0 (a0 : List S_api_Class) (s688 : (List Int) × Int) : Option (((List Int) × Int) ⊕ (((List Int)) ⊕ ((List Int)))) :=
  if decide (s688.2 ≥ 0) = true then (if decide (s688.2 < (a0.length : Int)) = true then ((types_Fields_1_s2 s688.2 s688.1).bind fun x1285 => if x1285.1 = true then ((idx a0 s688.2).bind fun x1318 => if decide (x1318.Parent ≥ s688.2) = true then (some (.inr (.inl x1285.2))) else (some (.inl (x1285.2, x1318.Parent)))) else (some (.inr (.inr (x1285.2))))) else (some (.inr (.inr (s688.1))))) else (some (.inr (.inr (s688.1))))
noncomputable def types_climb_s1 (a0 : List S_api_Class) (a1 : Int) (a300 : List Int) : Option ((List Int)) :=
  (loopO (types_climb_s1_b0 a0) (a300, a1)).bind fun o682 => (match o682 with | .inl p1373 => (some p1373) | .inr p685 => (some p685))
-- proviso/types.Fields
noncomputable def types_Fields_b0 (a0 : List S_api_Class) (x36 : (List Int)) (s954 : (List S_api_Field) × Int) : Option (((List S_api_Field) × Int) ⊕ (((List S_api_Field)))) :=
  if decide (s954.2 ≥ 0) = true then ((idx x36 s954.2).bind fun x1215 => (idx a0 x1215).bind fun x1220 => (app 5864062014805 s954.1 x1220.Fields).bind fun x1231 => some (.inl (x1231, wr (s954.2 - 1)))) else (some (.inr s954.1))
noncomputable def types_Fields (a0 : List S_api_Class) (a1 : Int) : Option ((List S_api_Field)) :=
  (types_climb_s1 a0 a1 []).bind fun x36 => (loopO (types_Fields_b0 a0 x36) ([], wr ((x36.length : Int) - 1))).bind fun o949 => (some o949)
-- proviso/machine.class
noncomputable def machine_class (a0 : Int) : Option UInt8 :=
  some (toU8 (16 + ((toU8 a0).toNat : Int)))
-- proviso/machine.kindOf
noncomputable def machine_kindOf (a0 : UInt8) : Option Int :=
  if ((a0.toNat : Int) == 1) = true then (some 1) else (if ((a0.toNat : Int) == 2) = true then (some 2) else (some 3))
-- slices.Equal[[]int,int]
noncomputable def slices_Equal_int_int_b0 (a0 : List Int) (a1 : List Int) (s1067 : Int) : Option (Int ⊕ (Bool ⊕ Unit)) :=
  if decide (s1067 < (a0.length : Int)) = true then ((idx a0 s1067).bind fun x1387 => (idx a1 s1067).bind fun x1392 => if (x1387 != x1392) = true then (some (.inr (.inl false))) else (some (.inl (wr (s1067 + 1))))) else (some (.inr (.inr (()))))
noncomputable def slices_Equal_int_int (a0 : List Int) (a1 : List Int) : Option Bool :=
  if ((a0.length : Int) != (a1.length : Int)) = true then (some false) else ((loopO (slices_Equal_int_int_b0 a0 a1) 0).bind fun o1063 => (match o1063 with | .inl p1416 => (some p1416) | .inr p1066 => (some true)))
-- proviso/provisoplain.SameOutcome
noncomputable def provisoplain_SameOutcome (a0 : S_api_Outcome) (a1 : S_api_Outcome) : Option Bool :=
  if (a0.Err == a1.Err) = true then (if (a0.Trap == a1.Trap) = true then (if (a0.Result == a1.Result) = true then (if (a0.Steps == a1.Steps) = true then (if (a0.Cells == a1.Cells) = true then ((slices_Equal_int_int a0.Told a1.Told).bind fun x346 => some x346) else (some false)) else (some false)) else (some false)) else (some false)) else (some false)
-- (*proviso/machine.Machine).ready
noncomputable def machine_Machine_ready_n  : Option Bool :=
  some false
-- (*proviso/machine.Machine).Go
noncomputable def machine_Machine_Go_np (a1 : Int) : Option (Bool × Int) :=
  (machine_Machine_ready_n).bind fun x48 => some (false, 8)
-- (*proviso/machine.Machine).Where
noncomputable def machine_Machine_Where_n  : Option (Int × Int × Int) :=
  (machine_Machine_ready_n).bind fun x38 => some (0, 0, 0)
-- (*proviso/machine.Machine).Outcome
noncomputable def machine_Machine_Outcome_n  : Option S_api_Outcome :=
  (machine_Machine_ready_n).bind fun x66 => some (⟨0, 0, 0, [], 0, 0⟩ : S_api_Outcome)
-- (*proviso/machine.Machine).ready
noncomputable def machine_Machine_ready_z  : Option Bool :=
  some false
-- (*proviso/machine.Machine).Go
noncomputable def machine_Machine_Go_zp (a1 : Int) : Option (Bool × Int) :=
  (machine_Machine_ready_z).bind fun x66 => some (false, 8)
-- (*proviso/machine.Machine).Where
noncomputable def machine_Machine_Where_z  : Option (Int × Int × Int) :=
  (machine_Machine_ready_z).bind fun x44 => some (0, 0, 0)
-- (*proviso/machine.Machine).Outcome
noncomputable def machine_Machine_Outcome_z  : Option S_api_Outcome :=
  (machine_Machine_ready_z).bind fun x84 => some (⟨0, 0, 0, [], 0, 0⟩ : S_api_Outcome)
-- proviso/provisolaw17.MachineNobody
noncomputable def provisolaw17_MachineNobody (a0 : Int) : Option Bool :=
  (machine_Machine_Go_np a0).bind fun x1466 => (machine_Machine_Where_n).bind fun x1492 => if x1466.1 = true then (some false) else (if (x1466.2 != 8) = true then (some false) else (if (x1492.1 != 0) = true then (some false) else (if (x1492.2.1 != 0) = true then (some false) else (if (x1492.2.2 != 0) = true then (some false) else ((machine_Machine_Outcome_n).bind fun x1678 => (provisoplain_SameOutcome (⟨x1678.Err, x1678.Trap, x1678.Result, x1678.Told, x1678.Steps, x1678.Cells⟩ : S_api_Outcome) (⟨0, 0, 0, [], 0, 0⟩ : S_api_Outcome)).bind fun x1691 => if (!x1691) = true then (some false) else ((machine_Machine_Go_zp a0).bind fun x2028 => (machine_Machine_Where_z).bind fun x2066 => if x2028.1 = true then (some false) else (if (x2028.2 != 8) = true then (some false) else (if (x2066.1 != 0) = true then (some false) else (if (x2066.2.1 != 0) = true then (some false) else (if (x2066.2.2 != 0) = true then (some false) else ((machine_Machine_Outcome_z).bind fun x2258 => (provisoplain_SameOutcome (⟨x2258.Err, x2258.Trap, x2258.Result, x2258.Told, x2258.Steps, x2258.Cells⟩ : S_api_Outcome) (⟨0, 0, 0, [], 0, 0⟩ : S_api_Outcome)).bind fun x2277 => if (!x2277) = true then (some false) else (some true))))))))))))
end Go.Proofs.Ytfepcangbajjjaa
