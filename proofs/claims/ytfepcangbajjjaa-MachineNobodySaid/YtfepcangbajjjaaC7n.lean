/- The walk of (*proviso/machine.Machine).Outcome. -/
import Derived.Test.YtfepcangbajjjaaFx
import Derived.Test.YtfepcangbajjjaaDf
import Derived.Test.YtfepcangbajjjaaC8n
set_option linter.unusedVariables false
set_option linter.unusedSimpArgs false
namespace Go.Proofs.Ytfepcangbajjjaa
open Go Go.RowKit Go.Pv
theorem machine_Machine_Outcome_n_c {w : World} {r : S_api_Outcome}  (H : machine_Machine_Outcome_n = some r) :
    Calls Try.prog 7 #[.pointer none] w (Ret fun u_ w_ => ∃ u0 : Value, u_ = .agg ⟨[.int .i64 r.Err, .int .i64 r.Trap, .int .i64 r.Result, u0, .int .i64 r.Steps, .int .i64 r.Cells]⟩ ∧ SL w [] w_ [Sl (Ty.int .i64) u0 r.Told]) := by
  have s0 : SL w [] w [] := SL.init0 w
  refine call_enter Try.func7 rfl Try.ntmps7 (Nat.le_of_ble_eq_true rfl) (args := [.pointer none]) fun q0 F0 => ?_
  unfold machine_Machine_Outcome_n at H
  refine wp_seq ?_
  refine wp_reg ?_
  refine st_alloc F0 s0 Fx.zero35 rfl rfl fun g7 w8 q9 F10 s11 => ?_
  refine st_end ?_
  refine then_n ?_
  refine wp_seq ?_
  refine wp_seq ?_
  refine wp_reg ?_
  obtain ⟨x66, hx67, H⟩ := bind_ok H
  obtain rfl : false = x66 := some_ok hx67
  refine st_pr F10 (PR.op (ex_move rfl) <| PR.nil) fun q68 F69 => ?_
  refine st_call (args := [.tmp 3]) F69 Fx.fn8 rfl (machine_Machine_ready_n_c    hx67) rfl fun v70 w71 q72 hS74 F73 => ?_
  obtain ⟨rfl, hq76⟩ := hS74
  have s75 := s11.add hq76
  refine st_pr F73 (PR.op (ex_not rfl) <| PR.nil) fun q77 F78 => ?_
  refine st_end ?_
  refine then_n ?_
  refine wp_if_t F78 rfl ?_
  refine wp_seq ?_
  refine wp_reg ?_
  refine st_pr F78 (PR.op (ex_build (vs := []) Fx.zero35 Fx.pl35 rfl (cs := [.int .i64 0, .int .i64 0, .int .i64 0, .slice none 0 0, .int .i64 0, .int .i64 0]) (rfl)) <| PR.nil) fun q86 F87 => ?_
  have s92 := s75
  refine st_storea F87 s92 rfl rfl Fx.sz35 (one_cons rfl (one_cons rfl (one_cons rfl (one_cons rfl (one_cons rfl (one_cons rfl one_nil)))))) (Nat.le_of_ble_eq_true rfl) fun w88 q89 F90 s91 => ?_
  replace s91 : SL w [] w88 [Blk g7 35 [.int .i64 0, .int .i64 0, .int .i64 0, .slice none 0 0, .int .i64 0, .int .i64 0]] := s91
  refine st_end ?_
  refine then_n ?_
  obtain rfl := some_ok H
  refine wp_ret ?_
  refine then_r ?_
  refine ret_gen (rs := [.cell 2 35]) (vs := [.agg ⟨[.int .i64 0, .int .i64 0, .int .i64 0, .slice none 0 0, .int .i64 0, .int .i64 0]⟩]) F90 (by rfl) ⟨_, _, rfl, RV.blk s91 (.head _) rfl Fx.agg35 rfl, rfl⟩ ⟨_, rfl, ⟨(.slice none 0 0), rfl, (SL.nilSl (T := (Ty.int .i64)) s91).f1.drop⟩⟩
end Go.Proofs.Ytfepcangbajjjaa
