/- The walk of (*proviso/wire.Reader).ready. -/
import Derived.Test.YtpcdphfneidalaaFx
import Derived.Test.YtpcdphfneidalaaDf
set_option linter.unusedVariables false
set_option linter.unusedSimpArgs false
namespace Go.Proofs.Ytpcdphfneidalaa
open Go Go.RowKit Go.Pv
theorem wire_Reader_ready_c {w : World} {FF : List Nat} {g0 : Nat} {v0_0 : Value} {a0 : S_wire_Reader} {r : Bool} (hst : Star [Blk g0 81 [v0_0, .int .i64 a0.at_, .bool a0.made], Sl Ty.u8 v0_0 a0.b] w FF)  (H : wire_Reader_ready a0 = some r) :
    Calls Try.prog 55 #[.pointer (some ⟨g0, 0, none⟩)] w (Ret fun u_ w_ => u_ = .bool r ∧ SL w FF w_ [Blk g0 81 [v0_0, .int .i64 a0.at_, .bool a0.made], Sl Ty.u8 v0_0 a0.b]) := by
  have s0 : SL w FF w [Blk g0 81 [v0_0, .int .i64 a0.at_, .bool a0.made], Sl Ty.u8 v0_0 a0.b] := SL.init w FF hst
  refine call_enter Try.func55 rfl Try.ntmps55 (Nat.le_of_ble_eq_true rfl) (args := [.pointer (some ⟨g0, 0, none⟩)]) fun q0 F0 => ?_
  unfold wire_Reader_ready at H
  refine wp_seq ?_
  refine wp_reg ?_
  refine st_pr F0 (PR.op (ex_asg rfl) <| PR.nil) fun q3 F4 => ?_
  refine st_end ?_
  refine then_n ?_
  refine wp_seq ?_
  refine wp_reg ?_
  refine st_pr F4 (PR.op (ex_move rfl) <| PR.op (ex_ptr_ne rfl rfl Try.underlying69) <| PR.op (ex_move rfl) <| PR.nil) fun q17 F18 => ?_
  refine st_gop F18 rfl rfl rfl (ex_move rfl) rfl rfl fun q19 F20 => ?_
  refine st_gop F20 rfl rfl rfl (ex_nilcheck rfl) rfl rfl fun q21 F22 => ?_
  refine st_gop F22 rfl rfl rfl (ex_fab Fx.fa81_2 rfl rfl) rfl rfl fun q23 F24 => ?_
  refine st_gop F24 rfl rfl rfl (ex_ld Fx.nag4 rfl (s0.blk_cell (.head _) rfl)) rfl rfl fun q25 F26 => ?_
  refine st_pr F26 (PR.op (ex_pick_t rfl rfl) <| PR.op (ex_asg rfl) <| PR.nil) fun q27 F28 => ?_
  refine st_end ?_
  refine then_n ?_
  obtain rfl := some_ok H
  refine wp_ret ?_
  refine ret_gen (rs := [.tmp 2]) (vs := [.bool a0.made]) F28 (by rfl) ⟨_, _, rfl, RV.tmp rfl, rfl⟩ ⟨_, rfl, ⟨rfl, s0⟩⟩
end Go.Proofs.Ytpcdphfneidalaa
