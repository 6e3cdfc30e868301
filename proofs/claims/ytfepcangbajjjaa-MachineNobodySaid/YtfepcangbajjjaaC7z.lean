/- The walk of (*proviso/machine.Machine).Outcome. -/
import Derived.Test.YtfepcangbajjjaaFx
import Derived.Test.YtfepcangbajjjaaDf
import Derived.Test.YtfepcangbajjjaaC8z
set_option linter.unusedVariables false
set_option linter.unusedSimpArgs false
namespace Go.Proofs.Ytfepcangbajjjaa
open Go Go.RowKit Go.Pv
theorem machine_Machine_Outcome_z_c {w : World} {FF : List Nat} {g0 : Nat} {r : S_api_Outcome} (hst : Star [Blk g0 25 [.pointer none]] w FF)  (H : machine_Machine_Outcome_z = some r) :
    Calls Try.prog 7 #[.pointer (some ⟨g0, 0, none⟩)] w (Ret fun u_ w_ => ∃ u0 : Value, u_ = .agg ⟨[.int .i64 r.Err, .int .i64 r.Trap, .int .i64 r.Result, u0, .int .i64 r.Steps, .int .i64 r.Cells]⟩ ∧ SL w FF w_ [Blk g0 25 [.pointer none], Sl (Ty.int .i64) u0 r.Told]) := by
  have s0 : SL w FF w [Blk g0 25 [.pointer none]] := SL.init w FF hst
  refine call_enter Try.func7 rfl Try.ntmps7 (Nat.le_of_ble_eq_true rfl) (args := [.pointer (some ⟨g0, 0, none⟩)]) fun q0 F0 => ?_
  unfold machine_Machine_Outcome_z at H
  refine wp_seq ?_
  refine wp_reg ?_
  refine st_alloc F0 s0 Fx.zero35 rfl rfl fun g7 w8 q9 F10 s11 => ?_
  refine st_end ?_
  refine then_n ?_
  refine wp_seq ?_
  refine wp_seq ?_
  refine wp_reg ?_
  obtain ⟨x84, hx85, H⟩ := bind_ok H
  obtain rfl : false = x84 := some_ok hx85
  refine st_pr F10 (PR.op (ex_move rfl) <| PR.nil) fun q86 F87 => ?_
  have s95 := s11.f1
  obtain ⟨G100, hst96, hF97, hG98, hcl99⟩ := SL.open_ (ps := [Blk g0 25 [.pointer none]]) (rest := [Blk g7 35 [.int .i64 0, .int .i64 0, .int .i64 0, .slice none 0 0, .int .i64 0, .int .i64 0]]) s95
  refine st_call (args := [.tmp 3]) F87 Fx.fn8 rfl (machine_Machine_ready_z_c  hst96  hx85) rfl fun v88 w89 q90 hS92 F91 => ?_
  obtain ⟨rfl, hq94⟩ := hS92
  have s93 := hcl99 _ _ hq94
  refine st_pr F91 (PR.op (ex_not rfl) <| PR.nil) fun q101 F102 => ?_
  refine st_end ?_
  refine then_n ?_
  refine wp_if_t F102 rfl ?_
  refine wp_seq ?_
  refine wp_reg ?_
  refine st_pr F102 (PR.op (ex_build (vs := []) Fx.zero35 Fx.pl35 rfl (cs := [.int .i64 0, .int .i64 0, .int .i64 0, .slice none 0 0, .int .i64 0, .int .i64 0]) (rfl)) <| PR.nil) fun q110 F111 => ?_
  have s116 := s93.f1
  refine st_storea F111 s116 rfl rfl Fx.sz35 (one_cons rfl (one_cons rfl (one_cons rfl (one_cons rfl (one_cons rfl (one_cons rfl one_nil)))))) (Nat.le_of_ble_eq_true rfl) fun w112 q113 F114 s115 => ?_
  replace s115 : SL w FF w112 [Blk g7 35 [.int .i64 0, .int .i64 0, .int .i64 0, .slice none 0 0, .int .i64 0, .int .i64 0], Blk g0 25 [.pointer none]] := s115
  refine st_end ?_
  refine then_n ?_
  obtain rfl := some_ok H
  refine wp_ret ?_
  refine then_r ?_
  refine ret_gen (rs := [.cell 2 35]) (vs := [.agg ⟨[.int .i64 0, .int .i64 0, .int .i64 0, .slice none 0 0, .int .i64 0, .int .i64 0]⟩]) F114 (by rfl) ⟨_, _, rfl, RV.blk s115 (.head _) rfl Fx.agg35 rfl, rfl⟩ ⟨_, rfl, ⟨(.slice none 0 0), rfl, (SL.nilSl (T := (Ty.int .i64)) s115).f1.drop.f1⟩⟩
end Go.Proofs.Ytfepcangbajjjaa
