/- The plain functions. -/
import Derived.Test.YtkcehlfcfcabmaaGreatTy
set_option linter.unusedVariables false
set_option linter.unusedSimpArgs false
namespace Go.Proofs.YtkcehlfcfcabmaaGreat
open Go Go.RowKit Go.Pv
-- (*proviso/card.Card).lock
noncomputable def card_Card_lock_n  : Option Bool :=
  some false
-- (*proviso/card.Card).Size
noncomputable def card_Card_Size_np (a1 : List UInt8) : Option (Int × Int) :=
  (card_Card_lock_n).bind fun x38 => some (0, 8)
-- (*proviso/card.Card).Install
noncomputable def card_Card_Install_np (a1 : List UInt8) : Option ((List UInt8) × (List S_api_Write) × Int) :=
  (card_Card_lock_n).bind fun x38 => some ([], ([] : List S_api_Write), 8)
-- (*proviso/card.Card).Remove
noncomputable def card_Card_Remove_np (a1 : List UInt8) : Option ((List S_api_Write) × Int) :=
  (card_Card_lock_n).bind fun x38 => some (([] : List S_api_Write), 8)
-- (*proviso/card.Card).Run
noncomputable def card_Card_Run_npppp (a1 : List UInt8) (a2 : List Int) (a3 : Int) (a4 : Int) : Option (S_api_Outcome × Int) :=
  (card_Card_lock_n).bind fun x62 => some ((⟨0, 0, 0, [], 0, 0⟩ : S_api_Outcome), 8)
-- (*proviso/card.Card).Select
noncomputable def card_Card_Select_np (a1 : List UInt8) : Option Int :=
  (card_Card_lock_n).bind fun x38 => some 8
-- (*proviso/card.Card).Pack
noncomputable def card_Card_Pack_n  : Option Int :=
  (card_Card_lock_n).bind fun x38 => some 8
-- (*proviso/card.Card).Names
noncomputable def card_Card_Names_n  : Option ((List (List UInt8))) :=
  (card_Card_lock_n).bind fun x38 => some ([] : List (List UInt8))
-- (*proviso/card.Card).Image
noncomputable def card_Card_Image_n  : Option ((List UInt8)) :=
  (card_Card_lock_n).bind fun x38 => some ([] : List UInt8)
-- (*proviso/card.Card).Free
noncomputable def card_Card_Free_n  : Option Int :=
  (card_Card_lock_n).bind fun x38 => some 0
-- (*proviso/card.Card).Selected
noncomputable def card_Card_Selected_n  : Option ((List UInt8)) :=
  (card_Card_lock_n).bind fun x38 => some []
-- (*proviso/card.Card).lock
noncomputable def card_Card_lock_z  : Option Bool :=
  some false
-- (*proviso/card.Card).Size
noncomputable def card_Card_Size_zp (a1 : List UInt8) : Option (Int × Int) :=
  (card_Card_lock_z).bind fun x56 => some (0, 8)
-- (*proviso/card.Card).Install
noncomputable def card_Card_Install_zp (a1 : List UInt8) : Option ((List UInt8) × (List S_api_Write) × Int) :=
  (card_Card_lock_z).bind fun x56 => some ([], ([] : List S_api_Write), 8)
-- (*proviso/card.Card).Remove
noncomputable def card_Card_Remove_zp (a1 : List UInt8) : Option ((List S_api_Write) × Int) :=
  (card_Card_lock_z).bind fun x56 => some (([] : List S_api_Write), 8)
-- (*proviso/card.Card).Run
noncomputable def card_Card_Run_zpppp (a1 : List UInt8) (a2 : List Int) (a3 : Int) (a4 : Int) : Option (S_api_Outcome × Int) :=
  (card_Card_lock_z).bind fun x80 => some ((⟨0, 0, 0, [], 0, 0⟩ : S_api_Outcome), 8)
-- (*proviso/card.Card).Select
noncomputable def card_Card_Select_zp (a1 : List UInt8) : Option Int :=
  (card_Card_lock_z).bind fun x56 => some 8
-- (*proviso/card.Card).Pack
noncomputable def card_Card_Pack_z  : Option Int :=
  (card_Card_lock_z).bind fun x56 => some 8
-- (*proviso/card.Card).Names
noncomputable def card_Card_Names_z  : Option ((List (List UInt8))) :=
  (card_Card_lock_z).bind fun x56 => some ([] : List (List UInt8))
-- (*proviso/card.Card).Image
noncomputable def card_Card_Image_z  : Option ((List UInt8)) :=
  (card_Card_lock_z).bind fun x56 => some ([] : List UInt8)
-- (*proviso/card.Card).Free
noncomputable def card_Card_Free_z  : Option Int :=
  (card_Card_lock_z).bind fun x56 => some 0
-- (*proviso/card.Card).Selected
noncomputable def card_Card_Selected_z  : Option ((List UInt8)) :=
  (card_Card_lock_z).bind fun x56 => some []
-- proviso/provisolaw22.CardNone
noncomputable def provisolaw22_CardNone_b0 (x0 : Int × Int) (x1 : (List UInt8) × (List S_api_Write) × Int) (x2 : (List S_api_Write) × Int) (x3 : S_api_Outcome × Int) (x4 : Int) (x5 : Int) (s0 : Int) : Option (Int ⊕ (Bool ⊕ Unit)) :=
  if decide (s0 < (([x0.2, x1.2.2, x2.2, x3.2, x4, x5] : List Int).length : Int)) = true then ((idx ([x0.2, x1.2.2, x2.2, x3.2, x4, x5] : List Int) s0).bind fun x6 => if (x6 != 8) = true then (some (.inr (.inl false))) else (some (.inl (wr (s0 + 1))))) else (some (.inr (.inr (()))))
noncomputable def provisolaw22_CardNone_b1 (x0 : Int × Int) (x1 : (List UInt8) × (List S_api_Write) × Int) (x2 : (List S_api_Write) × Int) (x3 : S_api_Outcome × Int) (x4 : Int) (x5 : Int) (s0 : Int) : Option (Int ⊕ (Bool ⊕ Unit)) :=
  if decide (s0 < (([x0.2, x1.2.2, x2.2, x3.2, x4, x5] : List Int).length : Int)) = true then ((idx ([x0.2, x1.2.2, x2.2, x3.2, x4, x5] : List Int) s0).bind fun x6 => if (x6 != 8) = true then (some (.inr (.inl false))) else (some (.inl (wr (s0 + 1))))) else (some (.inr (.inr (()))))
noncomputable def provisolaw22_CardNone (a0 : List UInt8) (a1 : List UInt8) : Option Bool :=
  (card_Card_Size_np a0).bind fun x0 => (card_Card_Install_np a1).bind fun x1 => (card_Card_Remove_np a0).bind fun x2 => (card_Card_Run_npppp a0 ([] : List Int) 1 1).bind fun x3 => (card_Card_Select_np a0).bind fun x4 => (card_Card_Pack_n).bind fun x5 => ((loopO (provisolaw22_CardNone_b0 x0 x1 x2 x3 x4 x5) 0 : Option (Bool ⊕ Unit))).bind fun o0 => (match o0 with | .inl p0 => (some p0) | .inr p1 => ((card_Card_Names_n).bind fun x6 => if ((x6.length : Int) != 0) = true then (some false) else ((card_Card_Image_n).bind fun x7 => if ((x7.length : Int) != 0) = true then (some false) else ((card_Card_Free_n).bind fun x8 => if (x8 != 0) = true then (some false) else ((card_Card_Selected_n).bind fun x9 => if (x9 != []) = true then (some false) else ((card_Card_Size_zp a0).bind fun x10 => (card_Card_Install_zp a1).bind fun x11 => (card_Card_Remove_zp a0).bind fun x12 => (card_Card_Run_zpppp a0 ([] : List Int) 1 1).bind fun x13 => (card_Card_Select_zp a0).bind fun x14 => (card_Card_Pack_z).bind fun x15 => ((loopO (provisolaw22_CardNone_b1 x10 x11 x12 x13 x14 x15) 0 : Option (Bool ⊕ Unit))).bind fun o1 => (match o1 with | .inl p2 => (some p2) | .inr p3 => ((card_Card_Names_z).bind fun x16 => if ((x16.length : Int) != 0) = true then (some false) else ((card_Card_Image_z).bind fun x17 => if ((x17.length : Int) != 0) = true then (some false) else ((card_Card_Free_z).bind fun x18 => if (x18 != 0) = true then (some false) else ((card_Card_Selected_z).bind fun x19 => if (x19 != []) = true then (some false) else (some true))))))))))))
end Go.Proofs.YtkcehlfcfcabmaaGreat
