/- The plain law: no card, and a card without a store. -/
import Derived.Test.YtkcehlfcfcabmaaGreatDf
set_option linter.unusedVariables false
set_option linter.unusedSimpArgs false
namespace Go.Proofs.YtkcehlfcfcabmaaGreat
open Go Go.RowKit Go.Pv
theorem card_loop (b : Int → Option (Int ⊕ (Bool ⊕ Unit))) (h : ∀ i : Int, 0 ≤ i → i < 6 → b i = some (.inl (i + 1))) (h6 : b 6 = some (.inr (.inr ()))) : (loopO b 0 : Option (Bool ⊕ Unit)) = some (.inr ()) := by
  rw [loopO_eq, h 0 (by omega) (by omega)]
  show loopO b (0 + 1) = _
  rw [loopO_eq, h (0 + 1) (by omega) (by omega)]
  show loopO b (0 + 1 + 1) = _
  rw [loopO_eq, h (0 + 1 + 1) (by omega) (by omega)]
  show loopO b (0 + 1 + 1 + 1) = _
  rw [loopO_eq, h (0 + 1 + 1 + 1) (by omega) (by omega)]
  show loopO b (0 + 1 + 1 + 1 + 1) = _
  rw [loopO_eq, h (0 + 1 + 1 + 1 + 1) (by omega) (by omega)]
  show loopO b (0 + 1 + 1 + 1 + 1 + 1) = _
  rw [loopO_eq, h (0 + 1 + 1 + 1 + 1 + 1) (by omega) (by omega)]
  show loopO b 6 = _
  rw [loopO_eq, h6]
theorem idx8 (i : Int) (h0 : 0 ≤ i) (h1 : i < 6) : idx ([8, 8, 8, 8, 8, 8] : List Int) i = some 8 := by
  have : i = 0 ∨ i = 1 ∨ i = 2 ∨ i = 3 ∨ i = 4 ∨ i = 5 := by omega
  rcases this with rfl | rfl | rfl | rfl | rfl | rfl <;> rfl
theorem wr_in {n : Int} (h0 : 0 ≤ n) (h1 : n ≤ 6) : wr n = n := by
  have : n = 0 ∨ n = 1 ∨ n = 2 ∨ n = 3 ∨ n = 4 ∨ n = 5 ∨ n = 6 := by omega
  rcases this with rfl | rfl | rfl | rfl | rfl | rfl | rfl <;> rfl
theorem CardNone_law (a b : List UInt8) : provisolaw22_CardNone a b = some true := by
  have h0 : ∀ (x1 : List UInt8) (x2 x3 : List S_api_Write) (x4 : S_api_Outcome), (loopO (provisolaw22_CardNone_b0 (0, 8) (x1, x2, 8) (x3, 8) (x4, 8) 8 8) 0 : Option (Bool ⊕ Unit)) = some (.inr ()) := fun x1 x2 x3 x4 => by
    refine card_loop _ (fun i h0 h1 => ?_) rfl
    unfold provisolaw22_CardNone_b0
    rw [if_pos (by simp; omega), idx8 i h0 h1]
    simp only [Option.bind_some]
    rw [if_neg (by simp), wr_in (by omega) (by omega)]
  have h1 : ∀ (x1 : List UInt8) (x2 x3 : List S_api_Write) (x4 : S_api_Outcome), (loopO (provisolaw22_CardNone_b1 (0, 8) (x1, x2, 8) (x3, 8) (x4, 8) 8 8) 0 : Option (Bool ⊕ Unit)) = some (.inr ()) := fun x1 x2 x3 x4 => by
    refine card_loop _ (fun i h0 h1 => ?_) rfl
    unfold provisolaw22_CardNone_b1
    rw [if_pos (by simp; omega), idx8 i h0 h1]
    simp only [Option.bind_some]
    rw [if_neg (by simp), wr_in (by omega) (by omega)]
  simp [provisolaw22_CardNone, card_Card_lock_n, card_Card_Size_np, card_Card_Install_np, card_Card_Remove_np, card_Card_Run_npppp, card_Card_Select_np, card_Card_Pack_n, card_Card_Names_n, card_Card_Image_n, card_Card_Free_n, card_Card_Selected_n, card_Card_lock_z, card_Card_Size_zp, card_Card_Install_zp, card_Card_Remove_zp, card_Card_Run_zpppp, card_Card_Select_zp, card_Card_Pack_z, card_Card_Names_z, card_Card_Image_z, card_Card_Free_z, card_Card_Selected_z, h0, h1]
end Go.Proofs.YtkcehlfcfcabmaaGreat
