/- The walk of proviso/provisoplain.SameSig. -/
import Derived.Test.YtmeodoidfpcjlaaFx
import Derived.Test.YtmeodoidfpcjlaaDf
import Derived.Test.YtmeodoidfpcjlaaC59
set_option linter.unusedVariables false
set_option linter.unusedSimpArgs false
namespace Go.Proofs.Ytmeodoidfpcjlaa
open Go Go.RowKit Go.Pv
theorem provisoplain_SameSig_c {w : World} {v0_0 v1_0 : Value} {a0 : S_api_Sig} {a1 : S_api_Sig} {r : Bool} (hr0_0 : Rd Ty.u8 w [] v0_0 a0.Params) (hr1_0 : Rd Ty.u8 w [] v1_0 a1.Params) (H : provisoplain_SameSig a0 a1 = some r) :
    Calls Try.prog 40 #[.agg ⟨[v0_0, .int .u8 (a0.Result.toNat : Int)]⟩, .agg ⟨[v1_0, .int .u8 (a1.Result.toNat : Int)]⟩] w (Ret fun u_ w_ => u_ = .bool r ∧ SL w [] w_ []) := by
  have s0 : SL w [] w [] := SL.init0 w
  refine call_enter Try.func40 rfl Try.ntmps40 (Nat.le_of_ble_eq_true rfl) (args := [.agg ⟨[v0_0, .int .u8 (a0.Result.toNat : Int)]⟩, .agg ⟨[v1_0, .int .u8 (a1.Result.toNat : Int)]⟩]) fun q0 F0 => ?_
  unfold provisoplain_SameSig at H
  refine wp_seq ?_
  refine wp_reg ?_
  refine st_box F0 s0 rfl rfl rfl fun g15 w16 q17 F18 s19 => ?_
  refine st_box F18 s19 rfl rfl rfl fun g21 w22 q23 F24 s25 => ?_
  refine st_pr F24 (PR.op (ex_asg rfl) <| PR.nil) fun q27 F28 => ?_
  refine st_end ?_
  refine then_n ?_
  refine wp_seq ?_
  refine wp_reg ?_
  refine st_pr F28 (PR.op (ex_fab Fx.fa54_1 rfl rfl) <| PR.op (ex_ld Fx.nag52 rfl (s25.blk_cell (.tail _ <| .head _) rfl)) <| PR.op (ex_fab Fx.fa54_1 rfl rfl) <| PR.op (ex_ld Fx.nag52 rfl (s25.blk_cell (.head _) rfl)) <| PR.op (ex_eq rfl rfl) <| PR.op (ex_move rfl) <| PR.nil) fun q63 F64 => ?_
  refine bool_split ((a0.Result.toNat : Int) == (a1.Result.toNat : Int)) (fun hb65 => ?_) (fun hb65 => ?_)
  · replace H := ite_t hb65 H
    refine st_gop F64 rfl rfl (look_b rfl hb65) (ex_fab Fx.fa54_0 rfl rfl) rfl rfl fun q66 F67 => ?_
    refine st_gop F67 rfl rfl (look_b rfl hb65) (ex_ld Fx.nag51 rfl (s25.blk_cell (.tail _ <| .head _) rfl)) rfl rfl fun q68 F69 => ?_
    refine st_gop F69 rfl rfl (look_b rfl hb65) (ex_fab Fx.fa54_0 rfl rfl) rfl rfl fun q70 F71 => ?_
    refine st_gop F71 rfl rfl (look_b rfl hb65) (ex_ld Fx.nag51 rfl (s25.blk_cell (.head _) rfl)) rfl rfl fun q72 F73 => ?_
    obtain ⟨x74, hx75, H⟩ := bind_ok H
    refine st_ungd F73 rfl (look_b rfl hb65) ?_
    refine st_call (args := [.tmp 12, .tmp 14]) F73 Fx.fn59 rfl (slices_Equal_api_Type_api_Type_c (a0 := a0.Params) (a1 := a1.Params)  (hr0_0.pass0 s25) (hr1_0.pass0 s25) hx75) rfl fun v76 w77 q78 hS80 F79 => ?_
    obtain ⟨rfl, hq82⟩ := hS80
    have s81 := s25.add hq82
    refine st_pr F79 (PR.op (ex_pick_t (ev_b rfl hb65) rfl) <| PR.op (ex_asg rfl) <| PR.nil) fun q83 F84 => ?_
    refine st_end ?_
    refine then_n ?_
    obtain rfl := some_ok H
    refine wp_ret ?_
    refine ret_gen (rs := [.tmp 4]) (vs := [.bool x74]) F84 (by rfl) ⟨_, _, rfl, RV.tmp rfl, rfl⟩ ⟨_, rfl, ⟨rfl, s81.drop.drop⟩⟩
  · replace H := ite_f hb65 H
    refine st_gskip F64 rfl rfl (look_b rfl hb65) Bool.noConfusion rfl rfl fun q85 F86 => ?_
    refine st_gskip F86 rfl rfl (look_b rfl hb65) Bool.noConfusion rfl rfl fun q87 F88 => ?_
    refine st_gskip F88 rfl rfl (look_b rfl hb65) Bool.noConfusion rfl rfl fun q89 F90 => ?_
    refine st_gskip F90 rfl rfl (look_b rfl hb65) Bool.noConfusion rfl rfl fun q91 F92 => ?_
    refine st_gskip F92 rfl rfl (look_b rfl hb65) Bool.noConfusion rfl rfl fun q93 F94 => ?_
    refine st_pr F94 (PR.op (ex_pick_f (ev_b rfl hb65) rfl) <| PR.op (ex_asg rfl) <| PR.nil) fun q95 F96 => ?_
    refine st_end ?_
    refine then_n ?_
    obtain rfl := some_ok H
    refine wp_ret ?_
    refine ret_gen (rs := [.tmp 4]) (vs := [.bool false]) F96 (by rfl) ⟨_, _, rfl, RV.tmp rfl, rfl⟩ ⟨_, rfl, ⟨rfl, s25.drop.drop⟩⟩
end Go.Proofs.Ytmeodoidfpcjlaa
