/- The walk of (*proviso/machine.Machine).Where. -/
import Derived.Test.YtfepcangbajjjaaFx
import Derived.Test.YtfepcangbajjjaaDf
import Derived.Test.YtfepcangbajjjaaC8z
set_option linter.unusedVariables false
set_option linter.unusedSimpArgs false
namespace Go.Proofs.Ytfepcangbajjjaa
open Go Go.RowKit Go.Pv
theorem machine_Machine_Where_z_c {w : World} {FF : List Nat} {g0 : Nat} {r : Int × Int × Int} (hst : Star [Blk g0 25 [.pointer none]] w FF)  (H : machine_Machine_Where_z = some r) :
    Calls Try.prog 5 #[.pointer (some ⟨g0, 0, none⟩)] w (Ret fun u_ w_ => u_ = .tuple ⟨[.int .i64 r.1, .int .i64 r.2.1, .int .i64 r.2.2]⟩ ∧ SL w FF w_ [Blk g0 25 [.pointer none]]) := by
  have s0 : SL w FF w [Blk g0 25 [.pointer none]] := SL.init w FF hst
  refine call_enter Try.func5 rfl Try.ntmps5 (Nat.le_of_ble_eq_true rfl) (args := [.pointer (some ⟨g0, 0, none⟩)]) fun q0 F0 => ?_
  unfold machine_Machine_Where_z at H
  refine wp_seq ?_
  refine wp_reg ?_
  refine st_pr F0 (PR.op (ex_asg rfl) <| PR.op (ex_asg rfl) <| PR.op (ex_asg rfl) <| PR.nil) fun q3 F4 => ?_
  refine st_end ?_
  refine then_n ?_
  refine wp_seq ?_
  refine wp_seq ?_
  refine wp_reg ?_
  obtain ⟨x44, hx45, H⟩ := bind_ok H
  obtain rfl : false = x44 := some_ok hx45
  refine st_pr F4 (PR.op (ex_move rfl) <| PR.nil) fun q46 F47 => ?_
  have s55 := s0
  obtain ⟨G60, hst56, hF57, hG58, hcl59⟩ := SL.open_ (ps := [Blk g0 25 [.pointer none]]) (rest := []) s55
  refine st_call (args := [.tmp 6]) F47 Fx.fn8 rfl (machine_Machine_ready_z_c  hst56  hx45) rfl fun v48 w49 q50 hS52 F51 => ?_
  obtain ⟨rfl, hq54⟩ := hS52
  have s53 := hcl59 _ _ hq54
  refine st_pr F51 (PR.op (ex_not rfl) <| PR.op (ex_move rfl) <| PR.nil) fun q61 F62 => ?_
  refine st_gskip F62 rfl rfl rfl Bool.noConfusion rfl rfl fun q63 F64 => ?_
  refine st_gskip F64 rfl rfl rfl Bool.noConfusion rfl rfl fun q65 F66 => ?_
  refine st_gskip F66 rfl rfl rfl Bool.noConfusion rfl rfl fun q67 F68 => ?_
  refine st_gskip F68 rfl rfl rfl Bool.noConfusion rfl rfl fun q69 F70 => ?_
  refine st_gskip F70 rfl rfl rfl Bool.noConfusion rfl rfl fun q71 F72 => ?_
  refine st_gskip F72 rfl rfl rfl Bool.noConfusion rfl rfl fun q73 F74 => ?_
  refine st_gskip F74 rfl rfl rfl Bool.noConfusion rfl rfl fun q75 F76 => ?_
  refine st_pr F76 (PR.op (ex_pick_t rfl rfl) <| PR.nil) fun q77 F78 => ?_
  refine st_end ?_
  refine then_n ?_
  refine wp_if_t F78 rfl ?_
  refine wp_seq ?_
  refine wp_reg ?_
  refine st_pr F78 (PR.op (ex_asg rfl) <| PR.op (ex_asg rfl) <| PR.op (ex_asg rfl) <| PR.nil) fun q81 F82 => ?_
  refine st_end ?_
  refine then_n ?_
  obtain rfl := some_ok H
  refine wp_ret ?_
  refine then_r ?_
  refine ret_gen (rs := [.tmp 2, .tmp 3, .tmp 4]) (vs := [.int .i64 0, .int .i64 0, .int .i64 0]) F82 (by rfl) ⟨_, _, rfl, RV.tmp rfl, _, _, rfl, RV.tmp rfl, _, _, rfl, RV.tmp rfl, rfl⟩ ⟨_, rfl, ⟨rfl, s53⟩⟩
end Go.Proofs.Ytfepcangbajjjaa
