/- The walk of proviso/provisoref24.word. -/
import Derived.Test.YtpcdphfneidalaaFx
import Derived.Test.YtpcdphfneidalaaDf
set_option linter.unusedVariables false
set_option linter.unusedSimpArgs false
namespace Go.Proofs.Ytpcdphfneidalaa
open Go Go.RowKit Go.Pv
theorem provisoref24_word_c {w : World} {FF : List Nat} {v0 : Value} {a0 : List UInt8} {a1 : Int} {r : (List UInt8)} (hst : Star [Sl Ty.u8 v0 a0] w FF)  (H : provisoref24_word a0 a1 = some r) :
    Calls Try.prog 36 #[v0, .int .i64 a1] w (Ret fun u_ w_ => ∃ u0 : Value, u_ = u0 ∧ SL w FF w_ [Sl Ty.u8 u0 r]) := by
  have s0 : SL w FF w [Sl Ty.u8 v0 a0] := SL.init w FF hst
  refine call_enter Try.func36 rfl Try.ntmps36 (Nat.le_of_ble_eq_true rfl) (args := [v0, .int .i64 a1]) fun q0 F0 => ?_
  unfold provisoref24_word at H
  refine wp_seq ?_
  refine wp_reg ?_
  refine st_pr F0 (PR.op (ex_asg rfl) <| PR.nil) fun q3 F4 => ?_
  refine st_end ?_
  refine then_n ?_
  refine wp_seq ?_
  refine wp_reg ?_
  refine st_pr F4 (PR.op (ex_move rfl) <| PR.op (ex_move rfl) <| PR.op (ex_quo rfl rfl rfl) <| PR.op (ex_cv8 rfl Try.underlying3 Try.underlying5) <| PR.op (ex_move rfl) <| PR.op (ex_rem rfl rfl rfl) <| PR.op (ex_cv8 rfl Try.underlying3 Try.underlying5) <| PR.nil) fun q23 F24 => ?_
  refine st_bslice (parts := [(0, .tmp 8), (1, .tmp 11)]) Flat.u8 ([toU8 (IntKind.i64.wrap (Int.tdiv a1 256)), toU8 (Int.tmod a1 256)] : List UInt8) F24 s0 Fx.sl22 rfl (by decide) rfl rfl rfl (by simp [Value.cells]) rfl rfl rfl fun v25 w26 q27 F28 s29 => ?_
  obtain ⟨x31, hx32, H⟩ := bind_ok H
  have s38 := s29.f1
  obtain ⟨_, hr_⟩ := (s38.own_rd (.tail _ <| .head _))
  refine st_append_rd Flat.u8 F28 s38 Fx.sl22 rfl rfl rfl rfl hr_ rfl rfl hx32 rfl fun v33 w34 q35 F36 s37 => ?_
  have s37' := s37.f1.drop
  refine st_pr F36 (PR.op (ex_asg rfl) <| PR.nil) fun q39 F40 => ?_
  refine st_end ?_
  refine then_n ?_
  obtain rfl := some_ok H
  refine wp_ret ?_
  refine ret_gen (rs := [.tmp 4]) (vs := [v33]) F40 (by rfl) ⟨_, _, rfl, RV.tmp rfl, rfl⟩ ⟨_, rfl, ⟨v33, rfl, s37'⟩⟩
end Go.Proofs.Ytpcdphfneidalaa
