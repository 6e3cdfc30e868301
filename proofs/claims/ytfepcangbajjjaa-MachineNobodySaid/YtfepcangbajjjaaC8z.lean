/- The walk of (*proviso/machine.Machine).ready. -/
import Derived.Test.YtfepcangbajjjaaFx
import Derived.Test.YtfepcangbajjjaaDf
set_option linter.unusedVariables false
set_option linter.unusedSimpArgs false
namespace Go.Proofs.Ytfepcangbajjjaa
open Go Go.RowKit Go.Pv
theorem machine_Machine_ready_z_c {w : World} {FF : List Nat} {g0 : Nat} {r : Bool} (hst : Star [Blk g0 25 [.pointer none]] w FF)  (H : machine_Machine_ready_z = some r) :
    Calls Try.prog 8 #[.pointer (some ⟨g0, 0, none⟩)] w (Ret fun u_ w_ => u_ = .bool r ∧ SL w FF w_ [Blk g0 25 [.pointer none]]) := by
  have s0 : SL w FF w [Blk g0 25 [.pointer none]] := SL.init w FF hst
  refine call_enter Try.func8 rfl Try.ntmps8 (Nat.le_of_ble_eq_true rfl) (args := [.pointer (some ⟨g0, 0, none⟩)]) fun q0 F0 => ?_
  unfold machine_Machine_ready_z at H
  refine wp_seq ?_
  refine wp_reg ?_
  refine st_pr F0 (PR.op (ex_asg rfl) <| PR.nil) fun q3 F4 => ?_
  refine st_end ?_
  refine then_n ?_
  refine wp_seq ?_
  refine wp_reg ?_
  refine st_pr F4 (PR.op (ex_move rfl) <| PR.op (ex_ptr_ne rfl rfl Try.underlying22) <| PR.op (ex_move rfl) <| PR.nil) fun q19 F20 => ?_
  refine st_gop F20 rfl rfl rfl (ex_move rfl) rfl rfl fun q21 F22 => ?_
  refine st_gop F22 rfl rfl rfl (ex_nilcheck rfl) rfl rfl fun q23 F24 => ?_
  refine st_gop F24 rfl rfl rfl (ex_fab Fx.fa25_0 rfl rfl) rfl rfl fun q25 F26 => ?_
  refine st_gop F26 rfl rfl rfl (ex_ld Fx.nag23 rfl (s0.blk_cell (.head _) rfl)) rfl rfl fun q27 F28 => ?_
  refine st_gop F28 rfl rfl rfl (ex_ptr_nnn rfl rfl Try.underlying23) rfl rfl fun q29 F30 => ?_
  refine st_pr F30 (PR.op (ex_pick_t rfl rfl) <| PR.op (ex_asg rfl) <| PR.nil) fun q31 F32 => ?_
  refine st_end ?_
  refine then_n ?_
  obtain rfl := some_ok H
  refine wp_ret ?_
  refine ret_gen (rs := [.tmp 2]) (vs := [.bool false]) F32 (by rfl) ⟨_, _, rfl, RV.tmp rfl, rfl⟩ ⟨_, rfl, ⟨rfl, s0⟩⟩
end Go.Proofs.Ytfepcangbajjjaa
