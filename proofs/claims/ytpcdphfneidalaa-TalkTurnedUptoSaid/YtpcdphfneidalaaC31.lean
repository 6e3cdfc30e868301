/- The walk of proviso/wire.New. -/
import Derived.Test.YtpcdphfneidalaaFx
import Derived.Test.YtpcdphfneidalaaDf
set_option linter.unusedVariables false
set_option linter.unusedSimpArgs false
namespace Go.Proofs.Ytpcdphfneidalaa
open Go Go.RowKit Go.Pv
theorem wire_New_c {w : World} {r : S_wire_Writer}  (H : wire_New = some r) :
    Calls Try.prog 31 #[] w (Ret fun u_ w_ => ∃ k0 : Nat, ∃ u0 : Value, u_ = .pointer (some ⟨k0, 0, none⟩) ∧ SL w [] w_ [Blk k0 75 [u0, .bool r.made], Sl Ty.u8 u0 r.b]) := by
  have s0 : SL w [] w [] := SL.init0 w
  refine call_enter Try.func31 rfl Try.ntmps31 (Nat.le_of_ble_eq_true rfl) (args := []) fun q0 F0 => ?_
  unfold wire_New at H
  refine wp_seq ?_
  refine wp_reg ?_
  refine st_pr F0 (PR.op (ex_asg rfl) <| PR.nil) fun q3 F4 => ?_
  refine st_end ?_
  refine then_n ?_
  refine wp_seq ?_
  refine wp_reg ?_
  refine st_pr F4 (PR.op (ex_build (vs := [.bool true]) Fx.zero75 Fx.pl75 rfl (cs := [.slice none 0 0, .bool true]) (rfl)) <| PR.nil) fun q15 F16 => ?_
  refine st_box F16 s0 rfl rfl rfl fun g17 w18 q19 F20 s21 => ?_
  refine st_pr F20 (PR.op (ex_asg rfl) <| PR.nil) fun q23 F24 => ?_
  refine st_end ?_
  refine then_n ?_
  obtain rfl := some_ok H
  refine wp_ret ?_
  refine ret_gen (rs := [.tmp 0]) (vs := [.pointer (some ⟨g17, 0, none⟩)]) F24 (by rfl) ⟨_, _, rfl, RV.tmp rfl, rfl⟩ ⟨_, rfl, ⟨g17, (.slice none 0 0), rfl, (SL.nilSl (T := Ty.u8) s21).f1⟩⟩
end Go.Proofs.Ytpcdphfneidalaa
