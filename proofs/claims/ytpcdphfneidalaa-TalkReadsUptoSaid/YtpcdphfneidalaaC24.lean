/- The walk of proviso/provisolaw24.sameAnswer. -/
import Derived.Test.YtpcdphfneidalaaFx
import Derived.Test.YtpcdphfneidalaaDf
import Derived.Test.YtpcdphfneidalaaC17
set_option linter.unusedVariables false
set_option linter.unusedSimpArgs false
namespace Go.Proofs.Ytpcdphfneidalaa
open Go Go.RowKit Go.Pv
theorem provisolaw24_sameAnswer_c {w : World} {v0_1 v1_1 : Value} {a0 : S_api_Answer} {a1 : S_api_Answer} {r : Bool} (hr0_1 : Rd Ty.u8 w [] v0_1 a0.Data) (hr1_1 : Rd Ty.u8 w [] v1_1 a1.Data) (H : provisolaw24_sameAnswer a0 a1 = some r) :
    Calls Try.prog 24 #[.agg ⟨[.int .i64 a0.Status, v0_1]⟩, .agg ⟨[.int .i64 a1.Status, v1_1]⟩] w (Ret fun u_ w_ => u_ = .bool r ∧ SL w [] w_ []) := by
  have s0 : SL w [] w [] := SL.init0 w
  refine call_enter Try.func24 rfl Try.ntmps24 (Nat.le_of_ble_eq_true rfl) (args := [.agg ⟨[.int .i64 a0.Status, v0_1]⟩, .agg ⟨[.int .i64 a1.Status, v1_1]⟩]) fun q0 F0 => ?_
  unfold provisolaw24_sameAnswer at H
  refine wp_seq ?_
  refine wp_reg ?_
  refine st_box F0 s0 rfl rfl rfl fun g15 w16 q17 F18 s19 => ?_
  refine st_box F18 s19 rfl rfl rfl fun g21 w22 q23 F24 s25 => ?_
  refine st_pr F24 (PR.op (ex_asg rfl) <| PR.nil) fun q27 F28 => ?_
  refine st_end ?_
  refine then_n ?_
  refine wp_seq ?_
  refine wp_reg ?_
  refine st_pr F28 (PR.op (ex_fab Fx.fa41_0 rfl rfl) <| PR.op (ex_ld Fx.nag3 rfl (s25.blk_cell (.tail _ <| .head _) rfl)) <| PR.op (ex_fab Fx.fa41_0 rfl rfl) <| PR.op (ex_ld Fx.nag3 rfl (s25.blk_cell (.head _) rfl)) <| PR.op (ex_eq rfl rfl) <| PR.op (ex_move rfl) <| PR.nil) fun q63 F64 => ?_
  refine bool_split (a0.Status == a1.Status) (fun hb65 => ?_) (fun hb65 => ?_)
  · replace H := ite_t hb65 H
    refine st_gop F64 rfl rfl (look_b rfl hb65) (ex_fab Fx.fa41_1 rfl rfl) rfl rfl fun q66 F67 => ?_
    refine st_gop F67 rfl rfl (look_b rfl hb65) (ex_ld Fx.nag22 rfl (s25.blk_cell (.tail _ <| .head _) rfl)) rfl rfl fun q68 F69 => ?_
    refine st_gop F69 rfl rfl (look_b rfl hb65) (ex_fab Fx.fa41_1 rfl rfl) rfl rfl fun q70 F71 => ?_
    refine st_gop F71 rfl rfl (look_b rfl hb65) (ex_ld Fx.nag22 rfl (s25.blk_cell (.head _) rfl)) rfl rfl fun q72 F73 => ?_
    obtain ⟨x74, hx75, H⟩ := bind_ok H
    refine st_ungd F73 rfl (look_b rfl hb65) ?_
    refine st_call (args := [.tmp 12, .tmp 14]) F73 Fx.fn17 rfl (slices_Equal_byte_byte_c (a0 := a0.Data) (a1 := a1.Data)  (hr0_1.pass0 s25) (hr1_1.pass0 s25) hx75) rfl fun v76 w77 q78 hS80 F79 => ?_
    obtain ⟨rfl, hq82⟩ := hS80
    have s81 := s25.add hq82
    refine st_pr F79 (PR.op (ex_pick_t (ev_b rfl hb65) rfl) <| PR.op (ex_asg rfl) <| PR.nil) fun q83 F84 => ?_
    refine st_end ?_
    refine then_n ?_
    obtain rfl := some_ok H
    refine wp_ret ?_
    refine ret_gen (rs := [.tmp 4]) (vs := [.bool x74]) F84 (by rfl) ⟨_, _, rfl, RV.tmp rfl, rfl⟩ ⟨_, rfl, ⟨rfl, s81.drop.drop⟩⟩
  · replace H := ite_f hb65 H
    refine st_gskip F64 rfl rfl (look_b rfl hb65) Bool.noConfusion rfl rfl fun q85 F86 => ?_
    refine st_gskip F86 rfl rfl (look_b rfl hb65) Bool.noConfusion rfl rfl fun q87 F88 => ?_
    refine st_gskip F88 rfl rfl (look_b rfl hb65) Bool.noConfusion rfl rfl fun q89 F90 => ?_
    refine st_gskip F90 rfl rfl (look_b rfl hb65) Bool.noConfusion rfl rfl fun q91 F92 => ?_
    refine st_gskip F92 rfl rfl (look_b rfl hb65) Bool.noConfusion rfl rfl fun q93 F94 => ?_
    refine st_pr F94 (PR.op (ex_pick_f (ev_b rfl hb65) rfl) <| PR.op (ex_asg rfl) <| PR.nil) fun q95 F96 => ?_
    refine st_end ?_
    refine then_n ?_
    obtain rfl := some_ok H
    refine wp_ret ?_
    refine ret_gen (rs := [.tmp 4]) (vs := [.bool false]) F96 (by rfl) ⟨_, _, rfl, RV.tmp rfl, rfl⟩ ⟨_, rfl, ⟨rfl, s25.drop.drop⟩⟩
end Go.Proofs.Ytpcdphfneidalaa
