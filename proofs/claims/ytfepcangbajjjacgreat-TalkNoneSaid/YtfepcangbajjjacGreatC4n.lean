/- The walk of proviso/talk.New. -/
import Derived.Test.YtfepcangbajjjacGreatFx
import Derived.Test.YtfepcangbajjjacGreatDf
set_option linter.unusedVariables false
set_option linter.unusedSimpArgs false
namespace Go.Proofs.YtfepcangbajjjacGreat
open Go Go.RowKit Go.Pv
theorem talk_New_n_c {w : World} {r : Unit × Int}  (H : talk_New_n = some r) :
    Calls Tryz.prog 4 #[.pointer none] w (Ret fun u_ w_ => u_ = .tuple ⟨[.pointer none, .int .i64 r.2]⟩ ∧ SL w [] w_ []) := by
  have s0 : SL w [] w [] := SL.init0 w
  refine call_enter Tryz.func4 rfl Tryz.ntmps4 (Nat.le_of_ble_eq_true rfl) (args := [.pointer none]) fun q0 F0 => ?_
  unfold talk_New_n at H
  refine wp_seq ?_
  refine wp_reg ?_
  refine st_pr F0 (PR.op (ex_asg rfl) <| PR.op (ex_asg rfl) <| PR.nil) fun q3 F4 => ?_
  refine st_end ?_
  refine then_n ?_
  refine wp_seq ?_
  refine wp_seq ?_
  refine wp_reg ?_
  refine st_pr F4 (PR.op (ex_move rfl) <| PR.op (ex_ptr_nne rfl rfl Tryz.underlying27) <| PR.nil) fun q15 F16 => ?_
  refine st_end ?_
  refine then_n ?_
  refine wp_if_t F16 rfl ?_
  refine wp_seq ?_
  refine wp_reg ?_
  refine st_pr F16 (PR.op (ex_asg rfl) <| PR.op (ex_asg rfl) <| PR.nil) fun q19 F20 => ?_
  refine st_end ?_
  refine then_n ?_
  obtain rfl := some_ok H
  refine wp_ret ?_
  refine then_r ?_
  refine ret_gen (rs := [.tmp 2, .tmp 3]) (vs := [.pointer none, .int .i64 8]) F20 (by rfl) ⟨_, _, rfl, RV.tmp rfl, _, _, rfl, RV.tmp rfl, rfl⟩ ⟨_, rfl, ⟨rfl, s0⟩⟩
end Go.Proofs.YtfepcangbajjjacGreat
