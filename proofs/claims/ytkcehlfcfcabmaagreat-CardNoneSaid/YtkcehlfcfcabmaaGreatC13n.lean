/- The walk of (*proviso/card.Card).Selected. -/
import Derived.Test.YtkcehlfcfcabmaaGreatFx
import Derived.Test.YtkcehlfcfcabmaaGreatDf
import Derived.Test.YtkcehlfcfcabmaaGreatC15n
set_option linter.unusedVariables false
set_option linter.unusedSimpArgs false
namespace Go.Proofs.YtkcehlfcfcabmaaGreat
open Go Go.RowKit Go.Pv
theorem card_Card_Selected_n_c {w : World} {r : (List UInt8)}  (H : card_Card_Selected_n = some r) :
    Calls Tryz.prog 13 #[.pointer none] w (Ret fun u_ w_ => u_ = .string ⟨⟨r⟩⟩ ∧ SL w [] w_ []) := by
  have s0 : SL w [] w [] := SL.init0 w
  refine call_enter Tryz.func13 rfl Tryz.ntmps13 (Nat.le_of_ble_eq_true rfl) (args := [.pointer none]) fun q0 F0 => ?_
  unfold card_Card_Selected_n at H
  refine wp_seq ?_
  refine wp_reg ?_
  refine sv 1 F0 fun _ F2 => ?_
  refine st_end ?_
  refine then_n ?_
  refine wp_seq ?_
  refine wp_seq ?_
  refine wp_reg ?_
  obtain ⟨x38, hx39, H⟩ := bind_ok H
  obtain rfl : false = x38 := some_ok hx39
  refine sv 1 F2 fun _ F40 => ?_
  refine stc F40 s0 (card_Card_lock_n_c    hx39) fun w42 _ F44 s46 => ?_
  refine sv 1 F44 fun _ F48 => ?_
  refine st_end ?_
  refine then_n ?_
  refine wp_if_t F48 rfl ?_
  refine wp_seq ?_
  refine wp_reg ?_
  refine sv 1 F48 fun _ F50 => ?_
  refine st_end ?_
  refine then_n ?_
  obtain rfl := some_ok H
  refine wp_ret ?_
  refine then_r ?_
  exact rt F50 ⟨rfl, s46⟩
end Go.Proofs.YtkcehlfcfcabmaaGreat
