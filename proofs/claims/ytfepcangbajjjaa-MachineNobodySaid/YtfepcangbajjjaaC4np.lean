/- The walk of (*proviso/machine.Machine).Go. -/
import Derived.Test.YtfepcangbajjjaaFx
import Derived.Test.YtfepcangbajjjaaDf
import Derived.Test.YtfepcangbajjjaaC8n
set_option linter.unusedVariables false
set_option linter.unusedSimpArgs false
namespace Go.Proofs.Ytfepcangbajjjaa
open Go Go.RowKit Go.Pv
theorem machine_Machine_Go_np_c {w : World} {a1 : Int} {r : Bool × Int}  (H : machine_Machine_Go_np a1 = some r) :
    Calls Try.prog 4 #[.pointer none, .int .i64 a1] w (Ret fun u_ w_ => u_ = .tuple ⟨[.bool r.1, .int .i64 r.2]⟩ ∧ SL w [] w_ []) := by
  have s0 : SL w [] w [] := SL.init0 w
  refine call_enter Try.func4 rfl Try.ntmps4 (Nat.le_of_ble_eq_true rfl) (args := [.pointer none, .int .i64 a1]) fun q0 F0 => ?_
  unfold machine_Machine_Go_np at H
  refine wp_seq ?_
  refine wp_reg ?_
  refine st_pr F0 (PR.op (ex_asg rfl) <| PR.op (ex_asg rfl) <| PR.nil) fun q3 F4 => ?_
  refine st_end ?_
  refine then_n ?_
  refine wp_seq ?_
  refine wp_block ?_
  refine wp_seq ?_
  refine wp_reg ?_
  obtain ⟨x48, hx49, H⟩ := bind_ok H
  obtain rfl : false = x48 := some_ok hx49
  refine st_pr F4 (PR.op (ex_move rfl) <| PR.nil) fun q50 F51 => ?_
  refine st_call (args := [.tmp 7]) F51 Fx.fn8 rfl (machine_Machine_ready_n_c    hx49) rfl fun v52 w53 q54 hS56 F55 => ?_
  obtain ⟨rfl, hq58⟩ := hS56
  have s57 := s0.add hq58
  refine st_pr F55 (PR.op (ex_not rfl) <| PR.op (ex_asg rfl) <| PR.nil) fun q59 F60 => ?_
  refine st_end ?_
  refine then_n ?_
  refine wp_if_t F60 rfl ?_
  refine wp_seq ?_
  refine wp_reg ?_
  refine st_pr F60 (PR.op (ex_asg rfl) <| PR.op (ex_asg rfl) <| PR.nil) fun q63 F64 => ?_
  refine st_end ?_
  refine then_n ?_
  obtain rfl := some_ok H
  refine wp_ret ?_
  refine blk_r <| then_r ?_
  refine ret_gen (rs := [.tmp 4, .tmp 5]) (vs := [.bool false, .int .i64 8]) F64 (by rfl) ⟨_, _, rfl, RV.tmp rfl, _, _, rfl, RV.tmp rfl, rfl⟩ ⟨_, rfl, ⟨rfl, s57⟩⟩
end Go.Proofs.Ytfepcangbajjjaa
