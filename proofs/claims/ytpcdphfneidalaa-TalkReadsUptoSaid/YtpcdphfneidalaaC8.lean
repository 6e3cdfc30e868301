/- The walk of proviso/provisoplain.Roomy. -/
import Derived.Test.YtpcdphfneidalaaFx
import Derived.Test.YtpcdphfneidalaaDf
import Derived.Test.YtpcdphfneidalaaC27
set_option linter.unusedVariables false
set_option linter.unusedSimpArgs false
namespace Go.Proofs.Ytpcdphfneidalaa
open Go Go.RowKit Go.Pv
theorem provisoplain_Roomy_c {w : World} {v0 : Value} {a0 : List UInt8} {r : (List UInt8) × (List UInt8)} (hr0 : Rd Ty.u8 w [] v0 a0) (H : provisoplain_Roomy a0 = some r) :
    Calls Try.prog 8 #[v0] w (Ret fun u_ w_ => ∃ u0 u1 : Value, u_ = .tuple ⟨[u0, u1]⟩ ∧ View Ty.u8 u1 r.2 u0 r.1 ∧ SL w [] w_ [Sl Ty.u8 u1 r.2]) := by
  have s0 : SL w [] w [] := SL.init0 w
  refine call_enter Try.func8 rfl Try.ntmps8 (Nat.le_of_ble_eq_true rfl) (args := [v0]) fun q0 F0 => ?_
  unfold provisoplain_Roomy at H
  refine wp_seq ?_
  refine wp_reg ?_
  refine st_pr F0 (PR.op (ex_asg rfl) <| PR.op (ex_asg rfl) <| PR.nil) fun q3 F4 => ?_
  refine st_end ?_
  refine then_n ?_
  refine wp_seq ?_
  refine wp_reg ?_
  obtain ⟨x34, hx35, H⟩ := bind_ok H
  refine st_pr F4 (PR.op (ex_move rfl) <| PR.nil) fun q36 F37 => ?_
  refine st_call (args := [.tmp 5]) F37 Fx.fn27 rfl (slices_Clone_byte_byte_c (a0 := a0)  (hr0.pass0 s0) hx35) rfl fun v38 w39 q40 hS42 F41 => ?_
  obtain ⟨_, rfl, hq44⟩ := hS42
  have s43 := s0.add hq44
  refine st_bslice (parts := [(0, .const (.int .u8 165)), (1, .const (.int .u8 90)), (2, .const (.int .u8 195)), (3, .const (.int .u8 60))]) Flat.u8 ([(165 : UInt8), (90 : UInt8), (195 : UInt8), (60 : UInt8)] : List UInt8) F41 s43 Fx.sl22 rfl (by decide) rfl rfl rfl (by simp [Value.cells]) rfl rfl rfl fun v47 w48 q49 F50 s51 => ?_
  obtain ⟨x53, hx54, H⟩ := bind_ok H
  have s60 := s51.f1
  obtain ⟨_, hr_⟩ := (s60.own_rd (.tail _ <| .head _))
  refine st_append_rd Flat.u8 F50 s60 Fx.sl22 rfl rfl rfl rfl hr_ rfl rfl hx54 rfl fun v55 w56 q57 F58 s59 => ?_
  have s59' := s59.f1.drop
  refine st_pr F58 (PR.op (ex_asg rfl) <| PR.nil) fun q61 F62 => ?_
  refine st_end ?_
  refine then_n ?_
  refine wp_seq ?_
  refine wp_reg ?_
  obtain ⟨x70, hx71, H⟩ := bind_ok H
  obtain ⟨v72, hsc73, hv74⟩ := cut_view (s59'.own_rd (.head _)) Fx.sl22 rfl hx71 none (some (a0.length : Int)) (.inr ⟨rfl, rfl⟩) (.inl rfl)
  refine st_pr F62 (PR.op (ex_move rfl) <| PR.op (ex_move rfl) <| PR.op (ex_len rfl Try.underlying22 (formL (rdL hr0 s59'))) <| PR.op (hsc73 _ _ _ _ _ .i64 .i64 _ _ _ _ _ rfl trivial rfl) <| PR.op (ex_move rfl) <| PR.op (ex_asg rfl) <| PR.op (ex_asg rfl) <| PR.nil) fun q75 F76 => ?_
  refine st_end ?_
  refine then_n ?_
  obtain rfl := some_ok H
  refine wp_ret ?_
  refine ret_gen (rs := [.tmp 2, .tmp 3]) (vs := [v72, v55]) F76 (by rfl) ⟨_, _, rfl, RV.tmp rfl, _, _, rfl, RV.tmp rfl, rfl⟩ ⟨_, rfl, ⟨v72, v55, rfl, hv74, s59'⟩⟩
end Go.Proofs.Ytpcdphfneidalaa
