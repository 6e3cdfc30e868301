/- The walk of (*proviso/machine.Machine).Where. -/
import Derived.Test.YtfepcangbajjjaaFx
import Derived.Test.YtfepcangbajjjaaDf
import Derived.Test.YtfepcangbajjjaaC8n
set_option linter.unusedVariables false
set_option linter.unusedSimpArgs false
namespace Go.Proofs.Ytfepcangbajjjaa
open Go Go.RowKit Go.Pv
theorem machine_Machine_Where_n_c {w : World} {r : Int × Int × Int}  (H : machine_Machine_Where_n = some r) :
    Calls Try.prog 5 #[.pointer none] w (Ret fun u_ w_ => u_ = .tuple ⟨[.int .i64 r.1, .int .i64 r.2.1, .int .i64 r.2.2]⟩ ∧ SL w [] w_ []) := by
  have s0 : SL w [] w [] := SL.init0 w
  refine call_enter Try.func5 rfl Try.ntmps5 (Nat.le_of_ble_eq_true rfl) (args := [.pointer none]) fun q0 F0 => ?_
  unfold machine_Machine_Where_n at H
  refine wp_seq ?_
  refine wp_reg ?_
  refine st_pr F0 (PR.op (ex_asg rfl) <| PR.op (ex_asg rfl) <| PR.op (ex_asg rfl) <| PR.nil) fun q3 F4 => ?_
  refine st_end ?_
  refine then_n ?_
  refine wp_seq ?_
  refine wp_seq ?_
  refine wp_reg ?_
  obtain ⟨x38, hx39, H⟩ := bind_ok H
  obtain rfl : false = x38 := some_ok hx39
  refine st_pr F4 (PR.op (ex_move rfl) <| PR.nil) fun q40 F41 => ?_
  refine st_call (args := [.tmp 6]) F41 Fx.fn8 rfl (machine_Machine_ready_n_c    hx39) rfl fun v42 w43 q44 hS46 F45 => ?_
  obtain ⟨rfl, hq48⟩ := hS46
  have s47 := s0.add hq48
  refine st_pr F45 (PR.op (ex_not rfl) <| PR.op (ex_move rfl) <| PR.nil) fun q49 F50 => ?_
  refine st_gskip F50 rfl rfl rfl Bool.noConfusion rfl rfl fun q51 F52 => ?_
  refine st_gskip F52 rfl rfl rfl Bool.noConfusion rfl rfl fun q53 F54 => ?_
  refine st_gskip F54 rfl rfl rfl Bool.noConfusion rfl rfl fun q55 F56 => ?_
  refine st_gskip F56 rfl rfl rfl Bool.noConfusion rfl rfl fun q57 F58 => ?_
  refine st_gskip F58 rfl rfl rfl Bool.noConfusion rfl rfl fun q59 F60 => ?_
  refine st_gskip F60 rfl rfl rfl Bool.noConfusion rfl rfl fun q61 F62 => ?_
  refine st_gskip F62 rfl rfl rfl Bool.noConfusion rfl rfl fun q63 F64 => ?_
  refine st_pr F64 (PR.op (ex_pick_t rfl rfl) <| PR.nil) fun q65 F66 => ?_
  refine st_end ?_
  refine then_n ?_
  refine wp_if_t F66 rfl ?_
  refine wp_seq ?_
  refine wp_reg ?_
  refine st_pr F66 (PR.op (ex_asg rfl) <| PR.op (ex_asg rfl) <| PR.op (ex_asg rfl) <| PR.nil) fun q69 F70 => ?_
  refine st_end ?_
  refine then_n ?_
  obtain rfl := some_ok H
  refine wp_ret ?_
  refine then_r ?_
  refine ret_gen (rs := [.tmp 2, .tmp 3, .tmp 4]) (vs := [.int .i64 0, .int .i64 0, .int .i64 0]) F70 (by rfl) ⟨_, _, rfl, RV.tmp rfl, _, _, rfl, RV.tmp rfl, _, _, rfl, RV.tmp rfl, rfl⟩ ⟨_, rfl, ⟨rfl, s47⟩⟩
end Go.Proofs.Ytfepcangbajjjaa
