/- The walk of slices.Clone[[]byte,byte]. -/
import Derived.Test.YtmeodoidfpcjlaaFx
import Derived.Test.YtmeodoidfpcjlaaDf
set_option linter.unusedVariables false
set_option linter.unusedSimpArgs false
namespace Go.Proofs.Ytmeodoidfpcjlaa
open Go Go.RowKit Go.Pv
theorem slices_Clone_byte_byte_c {w : World} {v0 : Value} {a0 : List UInt8} {r : (List UInt8)} (hr0 : Rd Ty.u8 w [] v0 a0) (H : slices_Clone_byte_byte a0 = some r) :
    Calls Try.prog 31 #[v0] w (Ret fun u_ w_ => ∃ u0 : Value, u_ = u0 ∧ SL w [] w_ [Sl Ty.u8 u0 r]) := by
  have s0 : SL w [] w [] := SL.init0 w
  refine call_enter Try.func31 rfl Try.ntmps31 (Nat.le_of_ble_eq_true rfl) (args := [v0]) fun q0 F0 => ?_
  unfold slices_Clone_byte_byte at H
  refine wp_seq ?_
  refine wp_reg ?_
  refine st_pr F0 (PR.op (ex_asg rfl) <| PR.nil) fun q3 F4 => ?_
  refine st_end ?_
  refine then_n ?_
  refine wp_seq ?_
  refine wp_seq ?_
  refine wp_reg ?_
  obtain ⟨A29, c30, hv31⟩ := formL (rdL hr0 s0)
  refine st_pr F4 (PR.op (ex_move rfl) <| PR.op (ex_sl_eqf rfl hv31 rfl Try.underlying22) <| PR.nil) fun q33 F34 => ?_
  refine st_end ?_
  refine then_n ?_
  refine wp_if F34 rfl (fun hb35 => ?_) (fun hb35 => ?_)
  · have hn36 := nil_of (rdL hr0 s0) hv31 (by simpa using hb35)
    replace H := nil_conv (B := some ([] : List UInt8)) H (by simp [hn36, app])
    refine wp_seq ?_
    refine wp_reg ?_
    refine st_pr F34 (PR.op (ex_asg rfl) <| PR.nil) fun q75 F76 => ?_
    refine st_end ?_
    refine then_n ?_
    obtain rfl := some_ok H
    refine wp_ret ?_
    refine then_r ?_
    refine ret_gen (rs := [.tmp 2]) (vs := [.slice none 0 0]) F76 (by rfl) ⟨_, _, rfl, RV.tmp rfl, rfl⟩ ⟨_, rfl, ⟨(.slice none 0 0), rfl, (SL.nilSl (T := Ty.u8) s0)⟩⟩
  · refine wp_skip ?_
    refine then_n ?_
    refine wp_seq ?_
    refine wp_reg ?_
    refine st_bslice (parts := []) Flat.u8 ([] : List UInt8) F34 s0 Fx.sl22 rfl (by decide) rfl rfl rfl (by simp [Value.cells]) rfl rfl rfl fun v55 w56 q57 F58 s59 => ?_
    obtain ⟨x61, hx62, H⟩ := bind_ok H
    refine st_pr F58 (PR.op (ex_move rfl) <| PR.nil) fun q63 F64 => ?_
    have s70 := s59
    obtain ⟨_, hr_⟩ := (rdL hr0 s70)
    refine st_append_rd Flat.u8 F64 s70 Fx.sl22 rfl rfl rfl rfl hr_ rfl rfl hx62 rfl fun v65 w66 q67 F68 s69 => ?_
    refine st_pr F68 (PR.op (ex_asg rfl) <| PR.nil) fun q71 F72 => ?_
    refine st_end ?_
    refine then_n ?_
    obtain rfl := some_ok H
    refine wp_ret ?_
    refine ret_gen (rs := [.tmp 2]) (vs := [v65]) F72 (by rfl) ⟨_, _, rfl, RV.tmp rfl, rfl⟩ ⟨_, rfl, ⟨v65, rfl, s69⟩⟩
end Go.Proofs.Ytmeodoidfpcjlaa
