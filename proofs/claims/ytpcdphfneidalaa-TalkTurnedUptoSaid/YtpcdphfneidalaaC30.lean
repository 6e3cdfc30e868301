/- The walk of proviso/talk.small. -/
import Derived.Test.YtpcdphfneidalaaFx
import Derived.Test.YtpcdphfneidalaaDf
set_option linter.unusedVariables false
set_option linter.unusedSimpArgs false
namespace Go.Proofs.Ytpcdphfneidalaa
open Go Go.RowKit Go.Pv
theorem talk_small_c {w : World} {a0 : Int} {a1 : Int} {r : Bool}  (H : talk_small a0 a1 = some r) :
    Calls Try.prog 30 #[.int .i64 a0, .int .i64 a1] w (Ret fun u_ w_ => u_ = .bool r ∧ SL w [] w_ []) := by
  have s0 : SL w [] w [] := SL.init0 w
  refine call_enter Try.func30 rfl Try.ntmps30 (Nat.le_of_ble_eq_true rfl) (args := [.int .i64 a0, .int .i64 a1]) fun q0 F0 => ?_
  unfold talk_small at H
  refine wp_seq ?_
  refine wp_reg ?_
  refine st_pr F0 (PR.op (ex_asg rfl) <| PR.nil) fun q3 F4 => ?_
  refine st_end ?_
  refine then_n ?_
  refine wp_seq ?_
  refine wp_reg ?_
  refine st_pr F4 (PR.op (ex_move rfl) <| PR.op (ex_ge rfl rfl) <| PR.op (ex_move rfl) <| PR.nil) fun q24 F25 => ?_
  refine bool_split (decide (a0 ≥ 0)) (fun hb26 => ?_) (fun hb26 => ?_)
  · replace H := ite_t hb26 H
    refine st_gop F25 rfl rfl (look_b rfl hb26) (ex_move rfl) rfl rfl fun q27 F28 => ?_
    refine st_gop F28 rfl rfl (look_b rfl hb26) (ex_move rfl) rfl rfl fun q29 F30 => ?_
    refine st_gop F30 rfl rfl (look_b rfl hb26) (ex_le rfl rfl) rfl rfl fun q31 F32 => ?_
    refine st_pr F32 (PR.op (ex_pick_t (ev_b rfl hb26) rfl) <| PR.op (ex_asg rfl) <| PR.nil) fun q33 F34 => ?_
    refine st_end ?_
    refine then_n ?_
    obtain rfl := some_ok H
    refine wp_ret ?_
    refine ret_gen (rs := [.tmp 4]) (vs := [.bool (decide (a0 ≤ a1))]) F34 (by rfl) ⟨_, _, rfl, RV.tmp rfl, rfl⟩ ⟨_, rfl, ⟨rfl, s0⟩⟩
  · replace H := ite_f hb26 H
    refine st_gskip F25 rfl rfl (look_b rfl hb26) Bool.noConfusion rfl rfl fun q35 F36 => ?_
    refine st_gskip F36 rfl rfl (look_b rfl hb26) Bool.noConfusion rfl rfl fun q37 F38 => ?_
    refine st_gskip F38 rfl rfl (look_b rfl hb26) Bool.noConfusion rfl rfl fun q39 F40 => ?_
    refine st_pr F40 (PR.op (ex_pick_f (ev_b rfl hb26) rfl) <| PR.op (ex_asg rfl) <| PR.nil) fun q41 F42 => ?_
    refine st_end ?_
    refine then_n ?_
    obtain rfl := some_ok H
    refine wp_ret ?_
    refine ret_gen (rs := [.tmp 4]) (vs := [.bool false]) F42 (by rfl) ⟨_, _, rfl, RV.tmp rfl, rfl⟩ ⟨_, rfl, ⟨rfl, s0⟩⟩
end Go.Proofs.Ytpcdphfneidalaa
