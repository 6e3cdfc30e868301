/- The walk of proviso/provisoref16.Summed. -/
import Derived.Test.YtpcdphfneidalaaFx
import Derived.Test.YtpcdphfneidalaaDf
import Derived.Test.YtpcdphfneidalaaC50
set_option linter.unusedVariables false
set_option linter.unusedSimpArgs false
namespace Go.Proofs.Ytpcdphfneidalaa
open Go Go.RowKit Go.Pv
theorem provisoref16_Summed_c {w : World} {v0 : Value} {a0 : List UInt8} {r : (List UInt8)} (hr0 : Rd Ty.u8 w [] v0 a0) (H : provisoref16_Summed a0 = some r) :
    Calls Try.prog 37 #[v0] w (Ret fun u_ w_ => ∃ u0 : Value, u_ = u0 ∧ SL w [] w_ [Sl Ty.u8 u0 r]) := by
  have s0 : SL w [] w [] := SL.init0 w
  refine call_enter Try.func37 rfl Try.ntmps37 (Nat.le_of_ble_eq_true rfl) (args := [v0]) fun q0 F0 => ?_
  unfold provisoref16_Summed at H
  refine wp_seq ?_
  refine wp_reg ?_
  refine st_pr F0 (PR.op (ex_asg rfl) <| PR.nil) fun q3 F4 => ?_
  refine st_end ?_
  refine then_n ?_
  refine wp_seq ?_
  refine wp_reg ?_
  obtain ⟨x18, hx19, H⟩ := bind_ok H
  refine st_pr F4 (PR.op (ex_move rfl) <| PR.nil) fun q20 F21 => ?_
  refine st_call (args := [.tmp 4]) F21 Fx.fn50 rfl (provisoref01_Sum_c (a0 := a0)  (hr0.pass0 s0) hx19) rfl fun v22 w23 q24 hS26 F25 => ?_
  obtain ⟨rfl, hq28⟩ := hS26
  have s27 := s0.add hq28
  refine st_pr F25 (PR.op (ex_asg rfl) <| PR.nil) fun q29 F30 => ?_
  refine st_end ?_
  refine then_n ?_
  refine wp_seq ?_
  refine wp_reg ?_
  obtain ⟨x60, hx61, H⟩ := bind_ok H
  refine st_pr F30 (PR.op (ex_move rfl) <| PR.nil) fun q62 F63 => ?_
  have s70 := (SL.nilSl (T := Ty.u8) s27)
  obtain ⟨_, hr_⟩ := (rdL hr0 s70)
  refine st_append_rd Flat.u8 F63 s70 Fx.sl22 rfl rfl rfl rfl hr_ rfl rfl hx61 rfl fun v65 w66 q67 F68 s69 => ?_
  refine st_pr F68 (PR.op (ex_move rfl) <| PR.op (ex_quo rfl rfl rfl) <| PR.op (ex_rem rfl rfl rfl) <| PR.op (ex_cv8 rfl Try.underlying3 Try.underlying5) <| PR.op (ex_move rfl) <| PR.op (ex_quo rfl rfl rfl) <| PR.op (ex_rem rfl rfl rfl) <| PR.op (ex_cv8 rfl Try.underlying3 Try.underlying5) <| PR.op (ex_move rfl) <| PR.op (ex_quo rfl rfl rfl) <| PR.op (ex_rem rfl rfl rfl) <| PR.op (ex_cv8 rfl Try.underlying3 Try.underlying5) <| PR.op (ex_move rfl) <| PR.op (ex_rem rfl rfl rfl) <| PR.op (ex_cv8 rfl Try.underlying3 Try.underlying5) <| PR.nil) fun q71 F72 => ?_
  refine st_bslice (parts := [(0, .tmp 11), (1, .tmp 15), (2, .tmp 19), (3, .tmp 22)]) Flat.u8 ([toU8 (Int.tmod (IntKind.i64.wrap (Int.tdiv x18 16777216)) 256), toU8 (Int.tmod (IntKind.i64.wrap (Int.tdiv x18 65536)) 256), toU8 (Int.tmod (IntKind.i64.wrap (Int.tdiv x18 256)) 256), toU8 (Int.tmod x18 256)] : List UInt8) F72 s69 Fx.sl22 rfl (by decide) rfl rfl rfl (by simp [Value.cells]) rfl rfl rfl fun v73 w74 q75 F76 s77 => ?_
  obtain ⟨x79, hx80, H⟩ := bind_ok H
  have s86 := s77.f1
  obtain ⟨_, hr_⟩ := (s86.own_rd (.tail _ <| .head _))
  refine st_append_rd Flat.u8 F76 s86 Fx.sl22 rfl rfl rfl rfl hr_ rfl rfl hx80 rfl fun v81 w82 q83 F84 s85 => ?_
  have s85' := s85.f1.drop
  refine st_pr F84 (PR.op (ex_asg rfl) <| PR.nil) fun q87 F88 => ?_
  refine st_end ?_
  refine then_n ?_
  obtain rfl := some_ok H
  refine wp_ret ?_
  refine ret_gen (rs := [.tmp 2]) (vs := [v81]) F88 (by rfl) ⟨_, _, rfl, RV.tmp rfl, rfl⟩ ⟨_, rfl, ⟨v81, rfl, s85'⟩⟩
end Go.Proofs.Ytpcdphfneidalaa
