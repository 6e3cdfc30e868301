/- The walk of proviso/provisoref04.Size. -/
import Derived.Test.YtmeodoidfpcjlaaFx
import Derived.Test.YtmeodoidfpcjlaaDf
import Derived.Test.YtmeodoidfpcjlaaC69
set_option linter.unusedVariables false
set_option linter.unusedSimpArgs false
namespace Go.Proofs.Ytmeodoidfpcjlaa
open Go Go.RowKit Go.Pv
theorem provisoref04_Size_c {w : World} {a0 : UInt8} {r : Int}  (H : provisoref04_Size a0 = some r) :
    Calls Try.prog 51 #[.int .u8 (a0.toNat : Int)] w (Ret fun u_ w_ => u_ = .int .i64 r ∧ SL w [] w_ []) := by
  have s0 : SL w [] w [] := SL.init0 w
  refine call_enter Try.func51 rfl Try.ntmps51 (Nat.le_of_ble_eq_true rfl) (args := [.int .u8 (a0.toNat : Int)]) fun q0 F0 => ?_
  unfold provisoref04_Size at H
  refine wp_seq ?_
  refine wp_reg ?_
  refine st_pr F0 (PR.op (ex_asg rfl) <| PR.nil) fun q3 F4 => ?_
  refine st_end ?_
  refine then_n ?_
  refine wp_seq ?_
  refine wp_seq ?_
  refine wp_reg ?_
  refine st_pr F4 (PR.op (ex_move rfl) <| PR.op (ex_ge rfl rfl) <| PR.nil) fun q16 F17 => ?_
  refine st_end ?_
  refine then_n ?_
  refine wp_if F17 rfl (fun hb18 => ?_) (fun hb18 => ?_)
  · replace H := ite_t hb18 H
    refine wp_seq ?_
    refine wp_reg ?_
    refine st_pr F17 (PR.op (ex_asg rfl) <| PR.nil) fun q21 F22 => ?_
    refine st_end ?_
    refine then_n ?_
    obtain rfl := some_ok H
    refine wp_ret ?_
    refine then_r ?_
    refine ret_gen (rs := [.tmp 2]) (vs := [.int .i64 0]) F22 (by rfl) ⟨_, _, rfl, RV.tmp rfl, rfl⟩ ⟨_, rfl, ⟨rfl, s0⟩⟩
  · replace H := ite_f hb18 H
    refine wp_skip ?_
    refine then_n ?_
    refine wp_seq ?_
    refine wp_reg ?_
    obtain ⟨x36, hx37, H⟩ := bind_ok H
    refine st_pr F17 (PR.op (ex_move rfl) <| PR.nil) fun q38 F39 => ?_
    refine st_call (args := [.tmp 8]) F39 Fx.fn69 rfl (provisoref04_wide_c (a0 := a0)   hx37) rfl fun v40 w41 q42 hS44 F43 => ?_
    obtain ⟨rfl, hq46⟩ := hS44
    have s45 := s0.add hq46
    refine st_pr F43 (PR.op (ex_move rfl) <| PR.op (ex_extract (v := .int .i64 x36.1) rfl rfl) <| PR.op (ex_extract (v := .int .i64 x36.2) rfl rfl) <| PR.op (ex_asg rfl) <| PR.op (ex_asg rfl) <| PR.nil) fun q47 F48 => ?_
    refine st_end ?_
    refine then_n ?_
    refine wp_seq ?_
    refine wp_reg ?_
    refine st_pr F48 (PR.op (ex_move rfl) <| PR.op (ex_add rfl rfl) <| PR.op (ex_move rfl) <| PR.op (ex_add rfl rfl) <| PR.op (ex_asg rfl) <| PR.nil) fun q51 F52 => ?_
    refine st_end ?_
    refine then_n ?_
    obtain rfl := some_ok H
    refine wp_ret ?_
    refine ret_gen (rs := [.tmp 2]) (vs := [.int .i64 (wr ((wr (1 + x36.1)) + x36.2))]) F52 (by rfl) ⟨_, _, rfl, RV.tmp rfl, rfl⟩ ⟨_, rfl, ⟨rfl, s45⟩⟩
end Go.Proofs.Ytmeodoidfpcjlaa
