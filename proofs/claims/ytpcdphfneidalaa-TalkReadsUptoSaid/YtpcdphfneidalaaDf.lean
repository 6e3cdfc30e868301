/- The plain functions. -/
import Derived.Test.YtpcdphfneidalaaTy
set_option linter.unusedVariables false
set_option linter.unusedSimpArgs false
namespace Go.Proofs.Ytpcdphfneidalaa
open Go Go.RowKit Go.Pv
-- slices.Clone[[]byte,byte]
noncomputable def slices_Clone_byte_byte (a0 : List UInt8) : Option ((List UInt8)) :=
  (app 140737488355328 ([] : List UInt8) a0).bind fun x61 => some x61
-- proviso/provisoplain.Roomy
noncomputable def provisoplain_Roomy (a0 : List UInt8) : Option ((List UInt8) × (List UInt8)) :=
  (slices_Clone_byte_byte a0).bind fun x34 => (app 140737488355328 x34 ([(165 : UInt8), (90 : UInt8), (195 : UInt8), (60 : UInt8)] : List UInt8)).bind fun x53 => (cutL x53 0 (a0.length : Int)).bind fun x70 => some (x70, x53)
-- slices.Equal[[]byte,byte]
noncomputable def slices_Equal_byte_byte_b0 (a0 : List UInt8) (a1 : List UInt8) (s1067 : Int) : Option (Int ⊕ (Bool ⊕ Unit)) :=
  if decide (s1067 < (a0.length : Int)) = true then ((idx a0 s1067).bind fun x1387 => (idx a1 s1067).bind fun x1392 => if ((x1387.toNat : Int) != (x1392.toNat : Int)) = true then (some (.inr (.inl false))) else (some (.inl (wr (s1067 + 1))))) else (some (.inr (.inr (()))))
noncomputable def slices_Equal_byte_byte (a0 : List UInt8) (a1 : List UInt8) : Option Bool :=
  if ((a0.length : Int) != (a1.length : Int)) = true then (some false) else ((loopO (slices_Equal_byte_byte_b0 a0 a1) 0).bind fun o1063 => (match o1063 with | .inl p1416 => (some p1416) | .inr p1066 => (some true)))
-- proviso/provisolaw24.sameRequest
noncomputable def provisolaw24_sameRequest (a0 : S_api_Request) (a1 : S_api_Request) : Option Bool :=
  if (a0.Command == a1.Command) = true then (if (a0.Number == a1.Number) = true then ((slices_Equal_byte_byte a0.Data a1.Data).bind fun x124 => some x124) else (some false)) else (some false)
-- proviso/provisoplain.mark
noncomputable def provisoplain_mark (a0 : Int) : Option Int :=
  some (wr ((Int.tmod a0 250) + 1))
-- proviso/provisoplain.Untouched
noncomputable def provisoplain_Untouched (a0 : List UInt8) (a1 : List UInt8) : Option Bool :=
  (cutL a0 0 (a1.length : Int)).bind fun x243 => (slices_Equal_byte_byte x243 a1).bind fun x248 => if x248 = true then ((idx a0 (a1.length : Int)).bind fun x266 => if ((x266.toNat : Int) == 165) = true then ((idx a0 (wr ((a1.length : Int) + 1))).bind fun x286 => if ((x286.toNat : Int) == 90) = true then ((idx a0 (wr ((a1.length : Int) + 2))).bind fun x306 => if ((x306.toNat : Int) == 195) = true then ((idx a0 (wr ((a1.length : Int) + 3))).bind fun x326 => some ((x326.toNat : Int) == 60)) else (some false)) else (some false)) else (some false)) else (some false)
-- proviso/talk.small
noncomputable def talk_small (a0 : Int) (a1 : Int) : Option Bool :=
  if decide (a0 ≥ 0) = true then (some (decide (a0 ≤ a1))) else (some false)
-- proviso/wire.New
noncomputable def wire_New  : Option S_wire_Writer :=
  some (⟨[], true⟩ : S_wire_Writer)
-- (*proviso/wire.Writer).ready
noncomputable def wire_Writer_ready (a0 : S_wire_Writer) : Option Bool :=
  some a0.made
-- (*proviso/wire.Writer).put
noncomputable def wire_Writer_put (a0 : S_wire_Writer) (a1 : List UInt8) : Option (Int × S_wire_Writer) :=
  if decide ((a1.length : Int) > (wr (1048576 - (a0.b.length : Int)))) = true then (some (7, (⟨a0.b, a0.made⟩ : S_wire_Writer))) else ((app 140737488355328 a0.b a1).bind fun x40 => some (0, (⟨x40, a0.made⟩ : S_wire_Writer)))
-- (*proviso/wire.Writer).number
noncomputable def wire_Writer_number_b0 (a1 : Int) (a4 : Int) (s624 : (List UInt8) × Int) : Option (((List UInt8) × Int) ⊕ (((List UInt8)))) :=
  if decide (s624.2 < a4) = true then (if decide ((wr (8 * (wr ((wr (a4 - 1)) - s624.2)))) < 0) = true then none else ((idx s624.1 s624.2).bind fun x763 => some (.inl ((s624.1.set s624.2.toNat (toU8 (sShr .u32 (IntKind.u32.wrap a1) (wr (8 * (wr ((wr (a4 - 1)) - s624.2))))))), wr (s624.2 + 1))))) else (some (.inr s624.1))
noncomputable def wire_Writer_number (a0 : S_wire_Writer) (a1 : Int) (a2 : Int) (a3 : Int) (a4 : Int) : Option (Int × S_wire_Writer) :=
  (wire_Writer_ready (⟨a0.b, a0.made⟩ : S_wire_Writer)).bind fun x95 => if (!x95) = true then (some (8, (⟨a0.b, a0.made⟩ : S_wire_Writer))) else (if decide (a1 < a2) = true then (some (5, (⟨a0.b, a0.made⟩ : S_wire_Writer))) else (if decide (a1 > a3) = true then (some (5, (⟨a0.b, a0.made⟩ : S_wire_Writer))) else ((loopO (wire_Writer_number_b0 a1 a4) ((List.replicate 4 (0 : UInt8)), 0)).bind fun o621 => ((cutL o621 0 a4).bind fun x803 => (wire_Writer_put (⟨a0.b, a0.made⟩ : S_wire_Writer) x803).bind fun x808 => some (x808.1, (⟨x808.2.b, x808.2.made⟩ : S_wire_Writer))))))
-- (*proviso/wire.Writer).Byte
noncomputable def wire_Writer_Byte (a0 : S_wire_Writer) (a1 : Int) : Option (Int × S_wire_Writer) :=
  (wire_Writer_number (⟨a0.b, a0.made⟩ : S_wire_Writer) a1 0 255 1).bind fun x26 => some (x26.1, (⟨x26.2.b, x26.2.made⟩ : S_wire_Writer))
-- (*proviso/wire.Writer).Word
noncomputable def wire_Writer_Word (a0 : S_wire_Writer) (a1 : Int) : Option (Int × S_wire_Writer) :=
  (wire_Writer_number (⟨a0.b, a0.made⟩ : S_wire_Writer) a1 0 65535 2).bind fun x26 => some (x26.1, (⟨x26.2.b, x26.2.made⟩ : S_wire_Writer))
-- (*proviso/wire.Writer).Put
noncomputable def wire_Writer_Put (a0 : S_wire_Writer) (a1 : List UInt8) : Option (Int × S_wire_Writer) :=
  (wire_Writer_ready (⟨a0.b, a0.made⟩ : S_wire_Writer)).bind fun x67 => if (!x67) = true then (some (8, (⟨a0.b, a0.made⟩ : S_wire_Writer))) else ((wire_Writer_put (⟨a0.b, a0.made⟩ : S_wire_Writer) a1).bind fun x112 => some (x112.1, (⟨x112.2.b, x112.2.made⟩ : S_wire_Writer)))
-- (*proviso/wire.Writer).Long
noncomputable def wire_Writer_Long (a0 : S_wire_Writer) (a1 : Int) : Option (Int × S_wire_Writer) :=
  (wire_Writer_number (⟨a0.b, a0.made⟩ : S_wire_Writer) a1 (-2147483648) 2147483647 4).bind fun x26 => some (x26.1, (⟨x26.2.b, x26.2.made⟩ : S_wire_Writer))
-- proviso/wire.words
noncomputable def wire_words_b0 (s23396 : Int × Int) : Option ((Int × Int) ⊕ Int) :=
  if decide (s23396.2 < 8) = true then (if ((bAnd .u32 s23396.1 1) != 0) = true then (some (.inl (bXor .u32 (sShr .u32 s23396.1 1) 3988292384, wr (s23396.2 + 1)))) else (some (.inl (sShr .u32 s23396.1 1, wr (s23396.2 + 1))))) else (some (.inr s23396.1))
noncomputable def wire_words_b1 (s17698 : (List Int) × Int) : Option (((List Int) × Int) ⊕ (((List Int)))) :=
  if decide (s17698.2 < 256) = true then ((loopO (wire_words_b0) (IntKind.u32.wrap s17698.2, 0)).bind fun o23393 => ((idx s17698.1 s17698.2).bind fun x23573 => some (.inl ((s17698.1.set s17698.2.toNat o23393), wr (s17698.2 + 1))))) else (some (.inr s17698.1))
noncomputable def wire_words  : Option ((List Int)) :=
  (loopO (wire_words_b1) ((List.replicate 256 (0 : Int)), 0)).bind fun o17695 => (some o17695)
-- proviso/wire.Sum
noncomputable def wire_Sum_b0 (a0 : List UInt8) (x25 : (List Int)) (s634 : Int × Int) : Option ((Int × Int) ⊕ Int) :=
  if decide (s634.2 < (a0.length : Int)) = true then ((idx a0 s634.2).bind fun x810 => (idx x25 (((toU8 s634.1) ^^^ x810).toNat : Int)).bind fun x817 => some (.inl (bXor .u32 x817 (sShr .u32 s634.1 8), wr (s634.2 + 1)))) else (some (.inr s634.1))
noncomputable def wire_Sum (a0 : List UInt8) : Option Int :=
  (wire_words).bind fun x25 => (loopO (wire_Sum_b0 a0 x25) (4294967295, 0)).bind fun o631 => (some (wr (bNot .u32 o631)))
-- (*proviso/wire.Writer).Bytes
noncomputable def wire_Writer_Bytes (a0 : S_wire_Writer) : Option ((List UInt8)) :=
  (wire_Writer_ready (⟨a0.b, a0.made⟩ : S_wire_Writer)).bind fun x67 => if (!x67) = true then (some ([] : List UInt8)) else ((mkO 1 (a0.b.length : Int) (0 : UInt8)).bind fun x103 => some (cpL x103 a0.b))
-- proviso/talk.framed
noncomputable def talk_framed (a0 : S_wire_Writer) : Option ((List UInt8) × S_wire_Writer) :=
  (wire_Writer_Bytes (⟨a0.b, a0.made⟩ : S_wire_Writer)).bind fun x52 => (wire_Sum x52).bind fun x71 => (wire_Writer_Long (⟨a0.b, a0.made⟩ : S_wire_Writer) (wr (IntKind.i32.wrap x71))).bind fun x80 => (wire_Writer_Bytes (⟨x80.2.b, x80.2.made⟩ : S_wire_Writer)).bind fun x120 => some (x120, (⟨x80.2.b, x80.2.made⟩ : S_wire_Writer))
-- proviso/talk.Pack
noncomputable def talk_Pack (a0 : S_api_Request) : Option ((List UInt8) × Int) :=
  (talk_small a0.Command 255).bind fun x76 => if (!x76) = true then (some (([] : List UInt8), 5)) else ((talk_small a0.Number 65535).bind fun x108 => if (!x108) = true then (some (([] : List UInt8), 5)) else (if decide ((a0.Data.length : Int) > 255) = true then (some (([] : List UInt8), 4)) else ((wire_New).bind fun x150 => (wire_Writer_Byte (⟨x150.b, x150.made⟩ : S_wire_Writer) 80).bind fun x184 => (wire_Writer_Byte (⟨x184.2.b, x184.2.made⟩ : S_wire_Writer) a0.Command).bind fun x222 => (wire_Writer_Word (⟨x222.2.b, x222.2.made⟩ : S_wire_Writer) a0.Number).bind fun x260 => (wire_Writer_Byte (⟨x260.2.b, x260.2.made⟩ : S_wire_Writer) (a0.Data.length : Int)).bind fun x298 => (wire_Writer_Put (⟨x298.2.b, x298.2.made⟩ : S_wire_Writer) a0.Data).bind fun x336 => (talk_framed (⟨x336.2.b, x336.2.made⟩ : S_wire_Writer)).bind fun x378 => some (x378.1, 0))))
-- proviso/provisoref24.word
noncomputable def provisoref24_word (a0 : List UInt8) (a1 : Int) : Option ((List UInt8)) :=
  (app 140737488355328 a0 ([toU8 (IntKind.i64.wrap (Int.tdiv a1 256)), toU8 (Int.tmod a1 256)] : List UInt8)).bind fun x31 => some x31
-- proviso/provisoref01.Sum
noncomputable def provisoref01_Sum_b0 (s13036 : Int × Int) : Option ((Int × Int) ⊕ Int) :=
  if decide (s13036.2 < 8) = true then (if ((Int.tmod s13036.1 2) == 1) = true then (some (.inl (bXor .u32 (IntKind.u32.wrap (Int.tdiv s13036.1 2)) 3988292384, wr (s13036.2 + 1)))) else (some (.inl (IntKind.u32.wrap (Int.tdiv s13036.1 2), wr (s13036.2 + 1))))) else (some (.inr s13036.1))
noncomputable def provisoref01_Sum_b1 (a0 : List UInt8) (s9930 : Int × Int) : Option ((Int × Int) ⊕ Int) :=
  if decide (s9930.2 < (a0.length : Int)) = true then ((idx a0 s9930.2).bind fun x12829 => (loopO (provisoref01_Sum_b0) (bXor .u32 s9930.1 (IntKind.u32.wrap (x12829.toNat : Int)), 0)).bind fun o13033 => (some (.inl (o13033, wr (s9930.2 + 1))))) else (some (.inr s9930.1))
noncomputable def provisoref01_Sum (a0 : List UInt8) : Option Int :=
  (loopO (provisoref01_Sum_b1 a0) (4294967295, 0)).bind fun o9927 => (some (wr (bXor .u32 o9927 4294967295)))
-- proviso/provisoref16.Summed
noncomputable def provisoref16_Summed (a0 : List UInt8) : Option ((List UInt8)) :=
  (provisoref01_Sum a0).bind fun x18 => (app 140737488355328 ([] : List UInt8) a0).bind fun x60 => (app 140737488355328 x60 ([toU8 (Int.tmod (IntKind.i64.wrap (Int.tdiv x18 16777216)) 256), toU8 (Int.tmod (IntKind.i64.wrap (Int.tdiv x18 65536)) 256), toU8 (Int.tmod (IntKind.i64.wrap (Int.tdiv x18 256)) 256), toU8 (Int.tmod x18 256)] : List UInt8)).bind fun x79 => some x79
-- proviso/provisoref24.Pack
noncomputable def provisoref24_Pack (a0 : S_api_Request) : Option ((List UInt8) × Int) :=
  if decide (a0.Command < 0) = true then (some (([] : List UInt8), 5)) else (if decide (a0.Command > 255) = true then (some (([] : List UInt8), 5)) else (if decide (a0.Number < 0) = true then (some (([] : List UInt8), 5)) else (if decide (a0.Number > 65535) = true then (some (([] : List UInt8), 5)) else (if decide ((a0.Data.length : Int) > 255) = true then (some (([] : List UInt8), 4)) else ((provisoref24_word ([(80 : UInt8), toU8 a0.Command] : List UInt8) a0.Number).bind fun x260 => (app 140737488355328 x260 ([toU8 (a0.Data.length : Int)] : List UInt8)).bind fun x307 => (app 140737488355328 x307 a0.Data).bind fun x340 => (provisoref16_Summed x340).bind fun x350 => some (x350, 0))))))
-- proviso/talk.Told
noncomputable def talk_Told (a0 : S_api_Answer) : Option ((List UInt8) × Int) :=
  (talk_small a0.Status 65535).bind fun x70 => if (!x70) = true then (some (([] : List UInt8), 5)) else (if decide ((a0.Data.length : Int) > 255) = true then (some (([] : List UInt8), 4)) else ((wire_New).bind fun x112 => (wire_Writer_Byte (⟨x112.b, x112.made⟩ : S_wire_Writer) 112).bind fun x146 => (wire_Writer_Word (⟨x146.2.b, x146.2.made⟩ : S_wire_Writer) a0.Status).bind fun x184 => (wire_Writer_Byte (⟨x184.2.b, x184.2.made⟩ : S_wire_Writer) (a0.Data.length : Int)).bind fun x222 => (wire_Writer_Put (⟨x222.2.b, x222.2.made⟩ : S_wire_Writer) a0.Data).bind fun x260 => (talk_framed (⟨x260.2.b, x260.2.made⟩ : S_wire_Writer)).bind fun x302 => some (x302.1, 0)))
-- proviso/provisoref24.Answered
noncomputable def provisoref24_Answered (a0 : S_api_Answer) : Option ((List UInt8) × Int) :=
  if decide (a0.Status < 0) = true then (some (([] : List UInt8), 5)) else (if decide (a0.Status > 65535) = true then (some (([] : List UInt8), 5)) else (if decide ((a0.Data.length : Int) > 255) = true then (some (([] : List UInt8), 4)) else ((provisoref24_word ([(112 : UInt8)] : List UInt8) a0.Status).bind fun x124 => (app 140737488355328 x124 ([toU8 (a0.Data.length : Int)] : List UInt8)).bind fun x171 => (app 140737488355328 x171 a0.Data).bind fun x204 => (provisoref16_Summed x204).bind fun x214 => some (x214, 0))))
-- proviso/provisolaw24.TalkFrames
noncomputable def provisolaw24_TalkFrames (a0 : S_api_Request) (a1 : S_api_Answer) : Option Bool :=
  (provisoplain_Roomy a0.Data).bind fun x46 => (talk_Pack (⟨a0.Command, a0.Number, x46.1⟩ : S_api_Request)).bind fun x80 => (provisoref24_Pack (⟨a0.Command, a0.Number, a0.Data⟩ : S_api_Request)).bind fun x110 => if (x80.2 != x110.2) = true then (some false) else ((slices_Equal_byte_byte x80.1 x110.1).bind fun x245 => if (!x245) = true then (some false) else ((provisoplain_Untouched x46.2 a0.Data).bind fun x281 => if (!x281) = true then (some false) else ((provisoplain_Roomy a1.Data).bind fun x316 => (talk_Told (⟨a1.Status, x316.1⟩ : S_api_Answer)).bind fun x350 => (provisoref24_Answered (⟨a1.Status, a1.Data⟩ : S_api_Answer)).bind fun x380 => if (x350.2 == x380.2) = true then ((slices_Equal_byte_byte x350.1 x380.1).bind fun x466 => if x466 = true then ((provisoplain_Untouched x316.2 a1.Data).bind fun x484 => some x484) else (some false)) else (some false))))
-- proviso/wire.Over
noncomputable def wire_Over (a0 : List UInt8) : Option S_wire_Reader :=
  (mkO 1 (a0.length : Int) (0 : UInt8)).bind fun x17 => some (⟨(cpL x17 a0), 0, true⟩ : S_wire_Reader)
-- (*proviso/wire.Reader).ready
noncomputable def wire_Reader_ready (a0 : S_wire_Reader) : Option Bool :=
  some a0.made
-- (*proviso/wire.Reader).Left
noncomputable def wire_Reader_Left (a0 : S_wire_Reader) : Option Int :=
  (wire_Reader_ready (⟨a0.b, a0.at_, a0.made⟩ : S_wire_Reader)).bind fun x67 => if (!x67) = true then (some 0) else (some (wr ((a0.b.length : Int) - a0.at_)))
-- (*proviso/wire.Reader).next
noncomputable def wire_Reader_next (a0 : S_wire_Reader) (a1 : Int) : Option ((List UInt8) × Int × S_wire_Reader) :=
  (wire_Reader_ready (⟨a0.b, a0.at_, a0.made⟩ : S_wire_Reader)).bind fun x119 => if (!x119) = true then (some (([] : List UInt8), 8, (⟨a0.b, a0.at_, a0.made⟩ : S_wire_Reader))) else (if decide (a1 < 0) = true then (some (([] : List UInt8), 1, (⟨a0.b, a0.at_, a0.made⟩ : S_wire_Reader))) else ((wire_Reader_Left (⟨a0.b, a0.at_, a0.made⟩ : S_wire_Reader)).bind fun x171 => if decide (a1 > x171) = true then (some (([] : List UInt8), 2, (⟨a0.b, a0.at_, a0.made⟩ : S_wire_Reader))) else ((cutL a0.b (wr ((wr (a0.at_ + a1)) - a1)) (wr (a0.at_ + a1))).bind fun x218 => some (x218, 0, (⟨a0.b, wr (a0.at_ + a1), a0.made⟩ : S_wire_Reader)))))
-- (*proviso/wire.Reader).number
noncomputable def wire_Reader_number_b0 (x28 : (List UInt8) × Int × S_wire_Reader) (s592 : Int × Int) : Option ((Int × Int) ⊕ Int) :=
  if decide (s592.2 < (x28.1.length : Int)) = true then ((idx x28.1 s592.2).bind fun x754 => some (.inl (bOr .u32 (sShl .u32 s592.1 8) (IntKind.u32.wrap (x754.toNat : Int)), wr (s592.2 + 1)))) else (some (.inr s592.1))
noncomputable def wire_Reader_number (a0 : S_wire_Reader) (a1 : Int) : Option (Int × Int × S_wire_Reader) :=
  (wire_Reader_next (⟨a0.b, a0.at_, a0.made⟩ : S_wire_Reader) a1).bind fun x28 => (loopO (wire_Reader_number_b0 x28) (0, 0)).bind fun o589 => (some (o589, x28.2.1, (⟨x28.2.2.b, x28.2.2.at_, x28.2.2.made⟩ : S_wire_Reader)))
-- (*proviso/wire.Reader).Long
noncomputable def wire_Reader_Long (a0 : S_wire_Reader) : Option (Int × Int × S_wire_Reader) :=
  (wire_Reader_number (⟨a0.b, a0.at_, a0.made⟩ : S_wire_Reader) 4).bind fun x26 => some (wr (IntKind.i32.wrap x26.1), x26.2.1, (⟨x26.2.2.b, x26.2.2.at_, x26.2.2.made⟩ : S_wire_Reader))
-- proviso/talk.fault
noncomputable def talk_fault (a0 : List UInt8) (a1 : UInt8) (a2 : Int) : Option Int :=
  if ((a0.length : Int) == 0) = true then (some 2) else ((idx a0 0).bind fun x57 => if ((x57.toNat : Int) != (a1.toNat : Int)) = true then (some 240) else (if decide ((a0.length : Int) < a2) = true then (some 2) else ((idx a0 (wr (a2 - 1))).bind fun x102 => if decide ((a0.length : Int) < (wr ((wr (a2 + (x102.toNat : Int))) + 4))) = true then (some 2) else (if decide ((a0.length : Int) > (wr ((wr (a2 + (x102.toNat : Int))) + 4))) = true then (some 3) else ((cutL a0 (wr ((wr ((wr (a2 + (x102.toNat : Int))) + 4)) - 4)) (a0.length : Int)).bind fun x309 => (wire_Over x309).bind fun x314 => (wire_Reader_Long (⟨x314.b, x314.at_, x314.made⟩ : S_wire_Reader)).bind fun x329 => (cutL a0 0 (wr ((wr ((wr (a2 + (x102.toNat : Int))) + 4)) - 4))).bind fun x366 => (wire_Sum x366).bind fun x371 => if ((wr (IntKind.u32.wrap x329.1)) != x371) = true then (some 161) else (some 0))))))
-- (*proviso/wire.Reader).Byte
noncomputable def wire_Reader_Byte (a0 : S_wire_Reader) : Option (Int × Int × S_wire_Reader) :=
  (wire_Reader_number (⟨a0.b, a0.at_, a0.made⟩ : S_wire_Reader) 1).bind fun x26 => some (wr x26.1, x26.2.1, (⟨x26.2.2.b, x26.2.2.at_, x26.2.2.made⟩ : S_wire_Reader))
-- (*proviso/wire.Reader).Word
noncomputable def wire_Reader_Word (a0 : S_wire_Reader) : Option (Int × Int × S_wire_Reader) :=
  (wire_Reader_number (⟨a0.b, a0.at_, a0.made⟩ : S_wire_Reader) 2).bind fun x26 => some (wr x26.1, x26.2.1, (⟨x26.2.2.b, x26.2.2.at_, x26.2.2.made⟩ : S_wire_Reader))
-- (*proviso/wire.Reader).Take
noncomputable def wire_Reader_Take (a0 : S_wire_Reader) (a1 : Int) : Option ((List UInt8) × Int × S_wire_Reader) :=
  (wire_Reader_next (⟨a0.b, a0.at_, a0.made⟩ : S_wire_Reader) a1).bind fun x28 => if (x28.2.1 != 0) = true then (some (([] : List UInt8), x28.2.1, (⟨x28.2.2.b, x28.2.2.at_, x28.2.2.made⟩ : S_wire_Reader))) else ((mkO 1 (x28.1.length : Int) (0 : UInt8)).bind fun x81 => some ((cpL x81 x28.1), 0, (⟨x28.2.2.b, x28.2.2.at_, x28.2.2.made⟩ : S_wire_Reader)))
-- proviso/talk.Unpack
noncomputable def talk_Unpack (a0 : List UInt8) : Option (S_api_Request × Int) :=
  (talk_fault a0 (80 : UInt8) 5).bind fun x79 => if (x79 != 0) = true then (some ((⟨0, 0, []⟩ : S_api_Request), x79)) else ((cutL a0 1 (a0.length : Int)).bind fun x137 => (wire_Over x137).bind fun x142 => (wire_Reader_Byte (⟨x142.b, x142.at_, x142.made⟩ : S_wire_Reader)).bind fun x197 => (wire_Reader_Word (⟨x197.2.2.b, x197.2.2.at_, x197.2.2.made⟩ : S_wire_Reader)).bind fun x249 => (wire_Reader_Byte (⟨x249.2.2.b, x249.2.2.at_, x249.2.2.made⟩ : S_wire_Reader)).bind fun x296 => (wire_Reader_Take (⟨x296.2.2.b, x296.2.2.at_, x296.2.2.made⟩ : S_wire_Reader) x296.1).bind fun x345 => some ((⟨x197.1, x249.1, x345.1⟩ : S_api_Request), 0))
-- proviso/provisoref24.framed
noncomputable def provisoref24_framed (a0 : List UInt8) (a1 : UInt8) (a2 : Int) : Option Int :=
  if ((a0.length : Int) == 0) = true then (some 2) else ((idx a0 0).bind fun x49 => if ((x49.toNat : Int) != (a1.toNat : Int)) = true then (some 240) else (if decide ((a0.length : Int) ≤ a2) = true then (some 2) else ((idx a0 a2).bind fun x86 => if decide ((a0.length : Int) < (wr ((wr ((wr (a2 + 1)) + (x86.toNat : Int))) + 4))) = true then (some 2) else (if decide ((a0.length : Int) > (wr ((wr ((wr (a2 + 1)) + (x86.toNat : Int))) + 4))) = true then (some 3) else ((cutL a0 0 (wr ((wr ((wr ((wr (a2 + 1)) + (x86.toNat : Int))) + 4)) - 4))).bind fun x299 => (provisoref16_Summed x299).bind fun x316 => if (x316 != a0) = true then (some 161) else (some 0))))))
-- proviso/provisoref24.Unpack
noncomputable def provisoref24_Unpack (a0 : List UInt8) : Option (S_api_Request × Int) :=
  (provisoref24_framed a0 (80 : UInt8) 4).bind fun x30 => if (x30 != 0) = true then (some ((⟨0, 0, []⟩ : S_api_Request), x30)) else ((idx a0 1).bind fun x384 => (idx a0 2).bind fun x397 => (idx a0 3).bind fun x412 => (cutL a0 5 (wr ((a0.length : Int) - 4))).bind fun x433 => (app 140737488355328 ([] : List UInt8) x433).bind fun x442 => some ((⟨(x384.toNat : Int), wr ((wr (256 * (x397.toNat : Int))) + (x412.toNat : Int)), x442⟩ : S_api_Request), 0))
-- proviso/talk.Heard
noncomputable def talk_Heard (a0 : List UInt8) : Option (S_api_Answer × Int) :=
  (talk_fault a0 (112 : UInt8) 4).bind fun x79 => if (x79 != 0) = true then (some ((⟨0, []⟩ : S_api_Answer), x79)) else ((cutL a0 1 (a0.length : Int)).bind fun x137 => (wire_Over x137).bind fun x142 => (wire_Reader_Word (⟨x142.b, x142.at_, x142.made⟩ : S_wire_Reader)).bind fun x197 => (wire_Reader_Byte (⟨x197.2.2.b, x197.2.2.at_, x197.2.2.made⟩ : S_wire_Reader)).bind fun x244 => (wire_Reader_Take (⟨x244.2.2.b, x244.2.2.at_, x244.2.2.made⟩ : S_wire_Reader) x244.1).bind fun x293 => some ((⟨x197.1, x293.1⟩ : S_api_Answer), 0))
-- proviso/provisoref24.Heard
noncomputable def provisoref24_Heard (a0 : List UInt8) : Option (S_api_Answer × Int) :=
  (provisoref24_framed a0 (112 : UInt8) 3).bind fun x30 => if (x30 != 0) = true then (some ((⟨0, []⟩ : S_api_Answer), x30)) else ((idx a0 1).bind fun x335 => (idx a0 2).bind fun x350 => (cutL a0 4 (wr ((a0.length : Int) - 4))).bind fun x371 => (app 140737488355328 ([] : List UInt8) x371).bind fun x380 => some ((⟨wr ((wr (256 * (x335.toNat : Int))) + (x350.toNat : Int)), x380⟩ : S_api_Answer), 0))
-- proviso/provisolaw24.sameAnswer
noncomputable def provisolaw24_sameAnswer (a0 : S_api_Answer) (a1 : S_api_Answer) : Option Bool :=
  if (a0.Status == a1.Status) = true then ((slices_Equal_byte_byte a0.Data a1.Data).bind fun x74 => some x74) else (some false)
-- proviso/provisolaw24.TalkReads
noncomputable def provisolaw24_TalkReads_b0 (x67 : S_api_Request × Int) (s758 : (List UInt8) × Int) : Option (((List UInt8) × Int) ⊕ (((List UInt8)))) :=
  if decide (s758.2 < (x67.1.Data.length : Int)) = true then ((idx s758.1 s758.2).bind fun x914 => some (.inl ((s758.1.set s758.2.toNat (255 : UInt8)), wr (s758.2 + 1)))) else (some (.inr s758.1))
noncomputable def provisolaw24_TalkReads (a0 : List UInt8) : Option Bool :=
  (provisoplain_Roomy a0).bind fun x22 => (talk_Unpack x22.1).bind fun x67 => (provisoref24_Unpack a0).bind fun x123 => if (x67.2 != x123.2) = true then (some false) else ((provisolaw24_sameRequest (⟨x67.1.Command, x67.1.Number, x67.1.Data⟩ : S_api_Request) (⟨x123.1.Command, x123.1.Number, x123.1.Data⟩ : S_api_Request)).bind fun x211 => if (!x211) = true then (some false) else ((loopO (provisolaw24_TalkReads_b0 x67) (x67.1.Data, 0)).bind fun o753 => ((talk_Heard x22.1).bind fun x959 => (provisoref24_Heard a0).bind fun x1015 => if (x959.2 == x1015.2) = true then ((provisolaw24_sameAnswer (⟨x959.1.Status, x959.1.Data⟩ : S_api_Answer) (⟨x1015.1.Status, x1015.1.Data⟩ : S_api_Answer)).bind fun x1108 => if x1108 = true then ((provisoplain_Untouched x22.2 a0).bind fun x1124 => some x1124) else (some false)) else (some false))))
-- proviso/provisolaw24.may
noncomputable def provisolaw24_may (a0 : S_api_Request) : Option Bool :=
  if decide (a0.Command ≥ 0) = true then (if decide (a0.Command ≤ 255) = true then (if decide (a0.Number ≥ 0) = true then (if decide (a0.Number ≤ 65535) = true then (some (decide ((a0.Data.length : Int) ≤ 255))) else (some false)) else (some false)) else (some false)) else (some false)
-- proviso/provisolaw24.awake
noncomputable def provisolaw24_awake  : Option Bool :=
  (talk_Pack (⟨1, 0, []⟩ : S_api_Request)).bind fun x20 => if (x20.2 == 0) = true then (if ((x20.1.length : Int) == 9) = true then ((idx x20.1 0).bind fun x150 => if ((x150.toNat : Int) == 80) = true then ((idx x20.1 1).bind fun x166 => some ((x166.toNat : Int) == 1)) else (some false)) else (some false)) else (some false)
-- proviso/provisolaw24.TalkTurned
noncomputable def provisolaw24_TalkTurned (a0 : S_api_Request) (a1 : Int) (a2 : UInt8) (a3 : List UInt8) : Option Bool :=
  (provisolaw24_may (⟨a0.Command, a0.Number, a0.Data⟩ : S_api_Request)).bind fun x79 => if (!x79) = true then ((provisolaw24_awake).bind fun x104 => some x104) else ((talk_Pack (⟨a0.Command, a0.Number, a0.Data⟩ : S_api_Request)).bind fun x130 => (talk_Told (⟨a0.Number, a0.Data⟩ : S_api_Answer)).bind fun x162 => if (x130.2 != 0) = true then (some false) else (if (x162.2 != 0) = true then (some false) else (if decide ((x130.1.length : Int) < 9) = true then (some false) else (if decide ((x162.1.length : Int) < 8) = true then (some false) else (if ((IntKind.u64.wrap (x130.1.length : Int)) == 0) = true then none else ((slices_Clone_byte_byte x130.1).bind fun x378 => (idx x378 (wr (Int.tmod a1 (IntKind.u64.wrap (x130.1.length : Int))))).bind fun x404 => (talk_Unpack (x378.set (wr (Int.tmod a1 (IntKind.u64.wrap (x130.1.length : Int)))).toNat a2)).bind fun x430 => (idx x130.1 (wr (Int.tmod a1 (IntKind.u64.wrap (x130.1.length : Int))))).bind fun x471 => if ((x430.2 == 0) != ((a2.toNat : Int) == (x471.toNat : Int))) = true then (some false) else ((cutL x130.1 0 (wr (Int.tmod a1 (IntKind.u64.wrap (x130.1.length : Int))))).bind fun x503 => (talk_Unpack x503).bind fun x508 => if (x508.2 == 0) = true then (some false) else (if ((IntKind.u64.wrap (x162.1.length : Int)) == 0) = true then none else ((slices_Clone_byte_byte x162.1).bind fun x562 => (idx x562 (wr (Int.tmod a1 (IntKind.u64.wrap (x162.1.length : Int))))).bind fun x588 => (talk_Heard (x562.set (wr (Int.tmod a1 (IntKind.u64.wrap (x162.1.length : Int)))).toNat a2)).bind fun x614 => (idx x162.1 (wr (Int.tmod a1 (IntKind.u64.wrap (x162.1.length : Int))))).bind fun x655 => if ((x614.2 == 0) != ((a2.toNat : Int) == (x655.toNat : Int))) = true then (some false) else ((cutL x162.1 0 (wr (Int.tmod a1 (IntKind.u64.wrap (x162.1.length : Int))))).bind fun x687 => (talk_Heard x687).bind fun x692 => if (x692.2 == 0) = true then (some false) else ((slices_Clone_byte_byte x130.1).bind fun x761 => (app 140737488355328 x761 a3).bind fun x774 => (talk_Unpack x774).bind fun x784 => (slices_Clone_byte_byte x162.1).bind fun x833 => (app 140737488355328 x833 a3).bind fun x846 => (talk_Heard x846).bind fun x856 => if ((x784.2 == 0) == ((a3.length : Int) == 0)) = true then (some ((x856.2 == 0) == ((a3.length : Int) == 0))) else (some false))))))))))))
-- proviso/provisolaw24.TalkBack
noncomputable def provisolaw24_TalkBack (a0 : S_api_Request) (a1 : Int) : Option Bool :=
  (provisolaw24_may (⟨a0.Command, a0.Number, a0.Data⟩ : S_api_Request)).bind fun x79 => if (!x79) = true then ((provisolaw24_awake).bind fun x104 => some x104) else ((talk_Pack (⟨a0.Command, a0.Number, a0.Data⟩ : S_api_Request)).bind fun x130 => (talk_Unpack x130.1).bind fun x173 => (talk_Told (⟨wr (Int.tmod a1 65536), a0.Data⟩ : S_api_Answer)).bind fun x244 => (talk_Heard x244.1).bind fun x287 => if (x130.2 == 0) = true then (if (x173.2 == 0) = true then (if (x244.2 == 0) = true then (if (x287.2 == 0) = true then ((provisolaw24_sameRequest (⟨x173.1.Command, x173.1.Number, x173.1.Data⟩ : S_api_Request) (⟨a0.Command, a0.Number, a0.Data⟩ : S_api_Request)).bind fun x506 => if x506 = true then ((provisolaw24_sameAnswer (⟨x287.1.Status, x287.1.Data⟩ : S_api_Answer) (⟨wr (Int.tmod a1 65536), a0.Data⟩ : S_api_Answer)).bind fun x522 => some x522) else (some false)) else (some false)) else (some false)) else (some false)) else (some false))
end Go.Proofs.Ytpcdphfneidalaa
