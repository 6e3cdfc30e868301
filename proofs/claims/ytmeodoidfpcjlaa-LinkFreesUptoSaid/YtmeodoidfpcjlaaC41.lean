/- The walk of slices.Contains[[]int,int]. -/
import Derived.Test.YtmeodoidfpcjlaaFx
import Derived.Test.YtmeodoidfpcjlaaDf
import Derived.Test.YtmeodoidfpcjlaaC60
set_option linter.unusedVariables false
set_option linter.unusedSimpArgs false
namespace Go.Proofs.Ytmeodoidfpcjlaa
open Go Go.RowKit Go.Pv
theorem slices_Contains_int_int_c {w : World} {v0 : Value} {a0 : List Int} {a1 : Int} {r : Bool} (hr0 : Rd (Ty.int .i64) w [] v0 a0) (H : slices_Contains_int_int a0 a1 = some r) :
    Calls Try.prog 41 #[v0, .int .i64 a1] w (Ret fun u_ w_ => u_ = .bool r ∧ SL w [] w_ []) := by
  have s0 : SL w [] w [] := SL.init0 w
  refine call_enter Try.func41 rfl Try.ntmps41 (Nat.le_of_ble_eq_true rfl) (args := [v0, .int .i64 a1]) fun q0 F0 => ?_
  unfold slices_Contains_int_int at H
  refine wp_seq ?_
  refine wp_reg ?_
  refine st_pr F0 (PR.op (ex_asg rfl) <| PR.nil) fun q3 F4 => ?_
  refine st_end ?_
  refine then_n ?_
  refine wp_seq ?_
  refine wp_reg ?_
  obtain ⟨x18, hx19, H⟩ := bind_ok H
  refine st_pr F4 (PR.op (ex_move rfl) <| PR.op (ex_move rfl) <| PR.nil) fun q20 F21 => ?_
  refine st_call (args := [.tmp 5, .tmp 6]) F21 Fx.fn60 rfl (slices_Index_int_int_c (a0 := a0) (a1 := a1)  (hr0.pass0 s0) hx19) rfl fun v22 w23 q24 hS26 F25 => ?_
  obtain ⟨rfl, hq28⟩ := hS26
  have s27 := s0.add hq28
  refine st_pr F25 (PR.op (ex_ge rfl rfl) <| PR.op (ex_asg rfl) <| PR.nil) fun q29 F30 => ?_
  refine st_end ?_
  refine then_n ?_
  obtain rfl := some_ok H
  refine wp_ret ?_
  refine ret_gen (rs := [.tmp 4]) (vs := [.bool (decide (x18 ≥ 0))]) F30 (by rfl) ⟨_, _, rfl, RV.tmp rfl, rfl⟩ ⟨_, rfl, ⟨rfl, s27⟩⟩
end Go.Proofs.Ytmeodoidfpcjlaa
