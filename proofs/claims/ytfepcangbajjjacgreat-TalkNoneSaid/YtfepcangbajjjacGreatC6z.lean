/- The walk of (*proviso/talk.Session).Waits. -/
import Derived.Test.YtfepcangbajjjacGreatFx
import Derived.Test.YtfepcangbajjjacGreatDf
set_option linter.unusedVariables false
set_option linter.unusedSimpArgs false
namespace Go.Proofs.YtfepcangbajjjacGreat
open Go Go.RowKit Go.Pv
theorem talk_Session_Waits_z_c {w : World} {FF : List Nat} {g0 : Nat} {r : Int} (hst : Star [Blk g0 31 [.pointer none, .int .i64 0, .slice none 0 0, .slice none 0 0, .map none]] w FF)  (H : talk_Session_Waits_z = some r) :
    Calls Tryz.prog 6 #[.pointer (some ⟨g0, 0, none⟩)] w (Ret fun u_ w_ => u_ = .int .i64 r ∧ SL w FF w_ [Blk g0 31 [.pointer none, .int .i64 0, .slice none 0 0, .slice none 0 0, .map none]]) := by
  have s0 : SL w FF w [Blk g0 31 [.pointer none, .int .i64 0, .slice none 0 0, .slice none 0 0, .map none]] := SL.init w FF hst
  refine call_enter Tryz.func6 rfl Tryz.ntmps6 (Nat.le_of_ble_eq_true rfl) (args := [.pointer (some ⟨g0, 0, none⟩)]) fun q0 F0 => ?_
  unfold talk_Session_Waits_z at H
  refine wp_seq ?_
  refine wp_reg ?_
  refine st_pr F0 (PR.op (ex_asg rfl) <| PR.nil) fun q3 F4 => ?_
  refine st_end ?_
  refine then_n ?_
  refine wp_seq ?_
  refine wp_seq ?_
  refine wp_reg ?_
  refine st_pr F4 (PR.op (ex_move rfl) <| PR.op (ex_ptr_eq rfl rfl Tryz.underlying23) <| PR.nil) fun q11 F12 => ?_
  refine st_end ?_
  refine then_n ?_
  refine wp_if_f F12 rfl ?_
  refine wp_skip ?_
  refine then_n ?_
  refine wp_seq ?_
  refine wp_reg ?_
  refine st_pr F12 (PR.op (ex_move rfl) <| PR.op (ex_nilcheck rfl) <| PR.op (ex_fab Fx.fa31_2 rfl rfl) <| PR.op (ex_ld Fx.nag22 rfl (s0.blk_cell (.head _) rfl)) <| PR.op (ex_len rfl Tryz.underlying22 ⟨none, 0, rfl⟩) <| PR.op (ex_asg rfl) <| PR.nil) fun q15 F16 => ?_
  refine st_end ?_
  refine then_n ?_
  obtain rfl := some_ok H
  refine wp_ret ?_
  refine ret_gen (rs := [.tmp 2]) (vs := [.int .i64 ((0 : Nat) : Int)]) F16 (by rfl) ⟨_, _, rfl, RV.tmp rfl, rfl⟩ ⟨_, rfl, ⟨rfl, s0⟩⟩
end Go.Proofs.YtfepcangbajjjacGreat
