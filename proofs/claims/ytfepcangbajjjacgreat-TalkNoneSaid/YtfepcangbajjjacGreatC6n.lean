/- The walk of (*proviso/talk.Session).Waits. -/
import Derived.Test.YtfepcangbajjjacGreatFx
import Derived.Test.YtfepcangbajjjacGreatDf
set_option linter.unusedVariables false
set_option linter.unusedSimpArgs false
namespace Go.Proofs.YtfepcangbajjjacGreat
open Go Go.RowKit Go.Pv
theorem talk_Session_Waits_n_c {w : World} {r : Int}  (H : talk_Session_Waits_n = some r) :
    Calls Tryz.prog 6 #[.pointer none] w (Ret fun u_ w_ => u_ = .int .i64 r ∧ SL w [] w_ []) := by
  have s0 : SL w [] w [] := SL.init0 w
  refine call_enter Tryz.func6 rfl Tryz.ntmps6 (Nat.le_of_ble_eq_true rfl) (args := [.pointer none]) fun q0 F0 => ?_
  unfold talk_Session_Waits_n at H
  refine wp_seq ?_
  refine wp_reg ?_
  refine st_pr F0 (PR.op (ex_asg rfl) <| PR.nil) fun q3 F4 => ?_
  refine st_end ?_
  refine then_n ?_
  refine wp_seq ?_
  refine wp_seq ?_
  refine wp_reg ?_
  refine st_pr F4 (PR.op (ex_move rfl) <| PR.op (ex_ptr_nne rfl rfl Tryz.underlying23) <| PR.nil) fun q15 F16 => ?_
  refine st_end ?_
  refine then_n ?_
  refine wp_if_t F16 rfl ?_
  refine wp_seq ?_
  refine wp_reg ?_
  refine st_pr F16 (PR.op (ex_asg rfl) <| PR.nil) fun q19 F20 => ?_
  refine st_end ?_
  refine then_n ?_
  obtain rfl := some_ok H
  refine wp_ret ?_
  refine then_r ?_
  refine ret_gen (rs := [.tmp 2]) (vs := [.int .i64 0]) F20 (by rfl) ⟨_, _, rfl, RV.tmp rfl, rfl⟩ ⟨_, rfl, ⟨rfl, s0⟩⟩
end Go.Proofs.YtfepcangbajjjacGreat
