/- The walk of proviso/wire.Over. -/
import Derived.Test.YtpcdphfneidalaaFx
import Derived.Test.YtpcdphfneidalaaDf
set_option linter.unusedVariables false
set_option linter.unusedSimpArgs false
namespace Go.Proofs.Ytpcdphfneidalaa
open Go Go.RowKit Go.Pv
theorem wire_Over_c {w : World} {v0 : Value} {a0 : List UInt8} {r : S_wire_Reader} (hr0 : Rd Ty.u8 w [] v0 a0) (H : wire_Over a0 = some r) :
    Calls Try.prog 39 #[v0] w (Ret fun u_ w_ => ∃ k0 : Nat, ∃ u0 : Value, u_ = .pointer (some ⟨k0, 0, none⟩) ∧ SL w [] w_ [Blk k0 81 [u0, .int .i64 r.at_, .bool r.made], Sl Ty.u8 u0 r.b]) := by
  have s0 : SL w [] w [] := SL.init0 w
  refine call_enter Try.func39 rfl Try.ntmps39 (Nat.le_of_ble_eq_true rfl) (args := [v0]) fun q0 F0 => ?_
  unfold wire_Over at H
  refine wp_seq ?_
  refine wp_reg ?_
  refine st_pr F0 (PR.op (ex_asg rfl) <| PR.nil) fun q3 F4 => ?_
  refine st_end ?_
  refine then_n ?_
  refine wp_seq ?_
  refine wp_reg ?_
  obtain ⟨x17, hx18, H⟩ := bind_ok H
  refine st_pr F4 (PR.op (ex_move rfl) <| PR.op (ex_len rfl Try.underlying22 (formL (rdL hr0 s0))) <| PR.nil) fun q19 F20 => ?_
  refine st_make Flat.u8 (0 : UInt8) F20 s0 Fx.sl22 rfl rfl Fx.zero5 rfl rfl rfl hx18 rfl fun v21 w22 q23 F24 s25 => ?_
  refine st_pr F24 (PR.op (ex_asg rfl) <| PR.nil) fun q27 F28 => ?_
  refine st_end ?_
  refine then_n ?_
  refine wp_seq ?_
  refine wp_reg ?_
  refine st_pr F28 (PR.op (ex_move rfl) <| PR.op (ex_move rfl) <| PR.nil) fun q36 F37 => ?_
  have s38 := s25
  obtain ⟨_, hr_⟩ := (rdL hr0 s38)
  refine st_copy Flat.u8 F37 s38 Fx.sl22 rfl rfl rfl rfl hr_ rfl fun w39 q40 F41 s42 => ?_
  refine st_end ?_
  refine then_n ?_
  refine wp_seq ?_
  refine wp_reg ?_
  have hv54 := (formL (s42.own_rd (.head _)))
  refine st_pr F41 (PR.op (ex_move rfl) <| PR.op (ex_build (vs := [v21, .bool true]) Fx.zero81 Fx.pl81 rfl (cs := [v21, .int .i64 0, .bool true]) (by obtain ⟨_, _, e_0⟩ := hv54; rw [e_0] <;> rfl)) <| PR.nil) fun q55 F56 => ?_
  refine st_box F56 s42 rfl rfl rfl fun g57 w58 q59 F60 s61 => ?_
  refine st_pr F60 (PR.op (ex_asg rfl) <| PR.nil) fun q63 F64 => ?_
  refine st_end ?_
  refine then_n ?_
  obtain rfl := some_ok H
  refine wp_ret ?_
  refine ret_gen (rs := [.tmp 2]) (vs := [.pointer (some ⟨g57, 0, none⟩)]) F64 (by rfl) ⟨_, _, rfl, RV.tmp rfl, rfl⟩ ⟨_, rfl, ⟨g57, v21, rfl, s61⟩⟩
end Go.Proofs.Ytpcdphfneidalaa
