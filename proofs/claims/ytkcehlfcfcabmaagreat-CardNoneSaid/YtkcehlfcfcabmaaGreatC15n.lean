/- The walk of (*proviso/card.Card).lock. -/
import Derived.Test.YtkcehlfcfcabmaaGreatFx
import Derived.Test.YtkcehlfcfcabmaaGreatDf
set_option linter.unusedVariables false
set_option linter.unusedSimpArgs false
namespace Go.Proofs.YtkcehlfcfcabmaaGreat
open Go Go.RowKit Go.Pv
theorem card_Card_lock_n_c {w : World} {r : Bool}  (H : card_Card_lock_n = some r) :
    Calls Tryz.prog 15 #[.pointer none] w (Ret fun u_ w_ => u_ = .bool r ∧ SL w [] w_ []) := by
  have s0 : SL w [] w [] := SL.init0 w
  refine call_enter Tryz.func15 rfl Tryz.ntmps15 (Nat.le_of_ble_eq_true rfl) (args := [.pointer none]) fun q0 F0 => ?_
  unfold card_Card_lock_n at H
  refine wp_seq ?_
  refine wp_reg ?_
  refine sv 1 F0 fun _ F2 => ?_
  refine st_end ?_
  refine then_n ?_
  refine wp_seq ?_
  refine wp_seq ?_
  refine wp_reg ?_
  refine sv 1 F2 fun _ F8 => ?_
  refine sx F8 (ex_ptr_nne rfl rfl Tryz.underlying23) fun _ F9 => ?_
  refine sv 7 F9 fun _ F10 => ?_
  refine st_end ?_
  refine then_n ?_
  refine wp_if_t F10 rfl ?_
  refine wp_seq ?_
  refine wp_reg ?_
  refine sv 1 F10 fun _ F12 => ?_
  refine st_end ?_
  refine then_n ?_
  obtain rfl := some_ok H
  refine wp_ret ?_
  refine then_r ?_
  exact rt F12 ⟨rfl, s0⟩
end Go.Proofs.YtkcehlfcfcabmaaGreat
