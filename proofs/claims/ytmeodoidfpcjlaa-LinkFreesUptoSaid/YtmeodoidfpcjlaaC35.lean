/- The walk of proviso/provisoplain.Sig. -/
import Derived.Test.YtmeodoidfpcjlaaFx
import Derived.Test.YtmeodoidfpcjlaaDf
import Derived.Test.YtmeodoidfpcjlaaC37
set_option linter.unusedVariables false
set_option linter.unusedSimpArgs false
namespace Go.Proofs.Ytmeodoidfpcjlaa
open Go Go.RowKit Go.Pv
theorem provisoplain_Sig_c {w : World} {v0_0 : Value} {a0 : S_api_Sig} {r : S_api_Sig} (hr0_0 : Rd Ty.u8 w [] v0_0 a0.Params) (H : provisoplain_Sig a0 = some r) :
    Calls Try.prog 35 #[.agg ⟨[v0_0, .int .u8 (a0.Result.toNat : Int)]⟩] w (Ret fun u_ w_ => ∃ u0 : Value, u_ = .agg ⟨[u0, .int .u8 (r.Result.toNat : Int)]⟩ ∧ SL w [] w_ [Sl Ty.u8 u0 r.Params]) := by
  have s0 : SL w [] w [] := SL.init0 w
  refine call_enter Try.func35 rfl Try.ntmps35 (Nat.le_of_ble_eq_true rfl) (args := [.agg ⟨[v0_0, .int .u8 (a0.Result.toNat : Int)]⟩]) fun q0 F0 => ?_
  unfold provisoplain_Sig at H
  refine wp_seq ?_
  refine wp_reg ?_
  refine st_box F0 s0 rfl rfl rfl fun g13 w14 q15 F16 s17 => ?_
  refine st_alloc F16 s17 Fx.zero54 rfl rfl fun g19 w20 q21 F22 s23 => ?_
  refine st_end ?_
  refine then_n ?_
  refine wp_seq ?_
  refine wp_reg ?_
  obtain ⟨x45, hx46, H⟩ := bind_ok H
  refine st_pr F22 (PR.op (ex_fab Fx.fa54_0 rfl rfl) <| PR.op (ex_ld Fx.nag51 rfl (s23.blk_cell (.tail _ <| .head _) rfl)) <| PR.nil) fun q47 F48 => ?_
  refine st_call (args := [.tmp 4]) F48 Fx.fn37 rfl (slices_Clone_api_Type_api_Type_c (a0 := a0.Params)  (hr0_0.pass0 s23) hx46) rfl fun v49 w50 q51 hS53 F52 => ?_
  obtain ⟨_, rfl, hq55⟩ := hS53
  have s54 := s23.add hq55
  refine st_pr F52 (PR.op (ex_fab Fx.fa54_0 rfl rfl) <| PR.nil) fun q58 F59 => ?_
  have s64 := s54.f2
  refine st_store F59 s64 rfl rfl Fx.sz51 (form_cells (formL (s64.own_rd (.tail _ <| .head _)))) (form_one (formL (s64.own_rd (.tail _ <| .head _)))) rfl fun w60 q61 F62 s63 => ?_
  replace s63 : SL w [] w60 [Blk g13 54 [v49, .int .u8 (a0.Result.toNat : Int)], Sl Ty.u8 v49 x45, Blk g19 54 [.slice none 0 0, .int .u8 0]] := s63
  refine st_end ?_
  refine then_n ?_
  refine wp_seq ?_
  refine wp_reg ?_
  refine st_pr F62 (PR.op (ex_ldagg Fx.agg54 rfl (s63.blk_cells (.head _) (o := 0) (ds := [v49, .int .u8 (a0.Result.toNat : Int)]) (fun j u hu => by rw [Nat.zero_add]; exact hu)) rfl) <| PR.nil) fun q72 F73 => ?_
  have s78 := s63.f2
  refine st_storea F73 s78 rfl rfl Fx.sz54 (one_cons (form_one (formL (s78.own_rd (.tail _ <| .tail _ <| .head _)))) (one_cons rfl one_nil)) (Nat.le_of_ble_eq_true rfl) fun w74 q75 F76 s77 => ?_
  replace s77 : SL w [] w74 [Blk g19 54 [v49, .int .u8 (a0.Result.toNat : Int)], Blk g13 54 [v49, .int .u8 (a0.Result.toNat : Int)], Sl Ty.u8 v49 x45] := s77
  refine st_end ?_
  refine then_n ?_
  obtain rfl := some_ok H
  refine wp_ret ?_
  refine ret_gen (rs := [.cell 2 54]) (vs := [.agg ⟨[v49, .int .u8 (a0.Result.toNat : Int)]⟩]) F76 (by rfl) ⟨_, _, rfl, RV.blk s77 (.head _) rfl Fx.agg54 rfl, rfl⟩ ⟨_, rfl, ⟨v49, rfl, s77.drop.drop⟩⟩
end Go.Proofs.Ytmeodoidfpcjlaa
