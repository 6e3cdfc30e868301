/- The walk of (*proviso/machine.Machine).Go. -/
import Derived.Test.YtfepcangbajjjaaFx
import Derived.Test.YtfepcangbajjjaaDf
import Derived.Test.YtfepcangbajjjaaC8z
set_option linter.unusedVariables false
set_option linter.unusedSimpArgs false
namespace Go.Proofs.Ytfepcangbajjjaa
open Go Go.RowKit Go.Pv
theorem machine_Machine_Go_zp_c {w : World} {FF : List Nat} {g0 : Nat} {a1 : Int} {r : Bool × Int} (hst : Star [Blk g0 25 [.pointer none]] w FF)  (H : machine_Machine_Go_zp a1 = some r) :
    Calls Try.prog 4 #[.pointer (some ⟨g0, 0, none⟩), .int .i64 a1] w (Ret fun u_ w_ => u_ = .tuple ⟨[.bool r.1, .int .i64 r.2]⟩ ∧ SL w FF w_ [Blk g0 25 [.pointer none]]) := by
  have s0 : SL w FF w [Blk g0 25 [.pointer none]] := SL.init w FF hst
  refine call_enter Try.func4 rfl Try.ntmps4 (Nat.le_of_ble_eq_true rfl) (args := [.pointer (some ⟨g0, 0, none⟩), .int .i64 a1]) fun q0 F0 => ?_
  unfold machine_Machine_Go_zp at H
  refine wp_seq ?_
  refine wp_reg ?_
  refine st_pr F0 (PR.op (ex_asg rfl) <| PR.op (ex_asg rfl) <| PR.nil) fun q3 F4 => ?_
  refine st_end ?_
  refine then_n ?_
  refine wp_seq ?_
  refine wp_block ?_
  refine wp_seq ?_
  refine wp_reg ?_
  obtain ⟨x66, hx67, H⟩ := bind_ok H
  obtain rfl : false = x66 := some_ok hx67
  refine st_pr F4 (PR.op (ex_move rfl) <| PR.nil) fun q68 F69 => ?_
  have s77 := s0
  obtain ⟨G82, hst78, hF79, hG80, hcl81⟩ := SL.open_ (ps := [Blk g0 25 [.pointer none]]) (rest := []) s77
  refine st_call (args := [.tmp 7]) F69 Fx.fn8 rfl (machine_Machine_ready_z_c  hst78  hx67) rfl fun v70 w71 q72 hS74 F73 => ?_
  obtain ⟨rfl, hq76⟩ := hS74
  have s75 := hcl81 _ _ hq76
  refine st_pr F73 (PR.op (ex_not rfl) <| PR.op (ex_asg rfl) <| PR.nil) fun q83 F84 => ?_
  refine st_end ?_
  refine then_n ?_
  refine wp_if_t F84 rfl ?_
  refine wp_seq ?_
  refine wp_reg ?_
  refine st_pr F84 (PR.op (ex_asg rfl) <| PR.op (ex_asg rfl) <| PR.nil) fun q87 F88 => ?_
  refine st_end ?_
  refine then_n ?_
  obtain rfl := some_ok H
  refine wp_ret ?_
  refine blk_r <| then_r ?_
  refine ret_gen (rs := [.tmp 4, .tmp 5]) (vs := [.bool false, .int .i64 8]) F88 (by rfl) ⟨_, _, rfl, RV.tmp rfl, _, _, rfl, RV.tmp rfl, rfl⟩ ⟨_, rfl, ⟨rfl, s75⟩⟩
end Go.Proofs.Ytfepcangbajjjaa
