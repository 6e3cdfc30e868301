/- The walk of (*proviso/machine.Machine).ready. -/
import Derived.Test.YtfepcangbajjjaaFx
import Derived.Test.YtfepcangbajjjaaDf
set_option linter.unusedVariables false
set_option linter.unusedSimpArgs false
namespace Go.Proofs.Ytfepcangbajjjaa
open Go Go.RowKit Go.Pv
theorem machine_Machine_ready_n_c {w : World} {r : Bool}  (H : machine_Machine_ready_n = some r) :
    Calls Try.prog 8 #[.pointer none] w (Ret fun u_ w_ => u_ = .bool r ∧ SL w [] w_ []) := by
  have s0 : SL w [] w [] := SL.init0 w
  refine call_enter Try.func8 rfl Try.ntmps8 (Nat.le_of_ble_eq_true rfl) (args := [.pointer none]) fun q0 F0 => ?_
  unfold machine_Machine_ready_n at H
  refine wp_seq ?_
  refine wp_reg ?_
  refine st_pr F0 (PR.op (ex_asg rfl) <| PR.nil) fun q3 F4 => ?_
  refine st_end ?_
  refine then_n ?_
  refine wp_seq ?_
  refine wp_reg ?_
  refine st_pr F4 (PR.op (ex_move rfl) <| PR.op (ex_ptr_nnn rfl rfl Try.underlying22) <| PR.op (ex_move rfl) <| PR.nil) fun q19 F20 => ?_
  refine st_gskip F20 rfl rfl rfl Bool.noConfusion rfl rfl fun q21 F22 => ?_
  refine st_gskip F22 rfl rfl rfl Bool.noConfusion rfl rfl fun q23 F24 => ?_
  refine st_gskip F24 rfl rfl rfl Bool.noConfusion rfl rfl fun q25 F26 => ?_
  refine st_gskip F26 rfl rfl rfl Bool.noConfusion rfl rfl fun q27 F28 => ?_
  refine st_gskip F28 rfl rfl rfl Bool.noConfusion rfl rfl fun q29 F30 => ?_
  refine st_pr F30 (PR.op (ex_pick_f rfl rfl) <| PR.op (ex_asg rfl) <| PR.nil) fun q31 F32 => ?_
  refine st_end ?_
  refine then_n ?_
  obtain rfl := some_ok H
  refine wp_ret ?_
  refine ret_gen (rs := [.tmp 2]) (vs := [.bool false]) F32 (by rfl) ⟨_, _, rfl, RV.tmp rfl, rfl⟩ ⟨_, rfl, ⟨rfl, s0⟩⟩
end Go.Proofs.Ytfepcangbajjjaa
