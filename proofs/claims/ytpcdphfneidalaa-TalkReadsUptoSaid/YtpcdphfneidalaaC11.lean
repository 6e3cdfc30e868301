/- The walk of proviso/provisolaw24.sameRequest. -/
import Derived.Test.YtpcdphfneidalaaFx
import Derived.Test.YtpcdphfneidalaaDf
import Derived.Test.YtpcdphfneidalaaC17
set_option linter.unusedVariables false
set_option linter.unusedSimpArgs false
namespace Go.Proofs.Ytpcdphfneidalaa
open Go Go.RowKit Go.Pv
theorem provisolaw24_sameRequest_c {w : World} {v0_2 v1_2 : Value} {a0 : S_api_Request} {a1 : S_api_Request} {r : Bool} (hr0_2 : Rd Ty.u8 w [] v0_2 a0.Data) (hr1_2 : Rd Ty.u8 w [] v1_2 a1.Data) (H : provisolaw24_sameRequest a0 a1 = some r) :
    Calls Try.prog 11 #[.agg ⟨[.int .i64 a0.Command, .int .i64 a0.Number, v0_2]⟩, .agg ⟨[.int .i64 a1.Command, .int .i64 a1.Number, v1_2]⟩] w (Ret fun u_ w_ => u_ = .bool r ∧ SL w [] w_ []) := by
  have s0 : SL w [] w [] := SL.init0 w
  refine call_enter Try.func11 rfl Try.ntmps11 (Nat.le_of_ble_eq_true rfl) (args := [.agg ⟨[.int .i64 a0.Command, .int .i64 a0.Number, v0_2]⟩, .agg ⟨[.int .i64 a1.Command, .int .i64 a1.Number, v1_2]⟩]) fun q0 F0 => ?_
  unfold provisolaw24_sameRequest at H
  refine wp_seq ?_
  refine wp_reg ?_
  refine st_box F0 s0 rfl rfl rfl fun g15 w16 q17 F18 s19 => ?_
  refine st_box F18 s19 rfl rfl rfl fun g21 w22 q23 F24 s25 => ?_
  refine st_pr F24 (PR.op (ex_asg rfl) <| PR.nil) fun q27 F28 => ?_
  refine st_end ?_
  refine then_n ?_
  refine wp_seq ?_
  refine wp_reg ?_
  refine st_pr F28 (PR.op (ex_fab Fx.fa35_0 rfl rfl) <| PR.op (ex_ld Fx.nag3 rfl (s25.blk_cell (.tail _ <| .head _) rfl)) <| PR.op (ex_fab Fx.fa35_0 rfl rfl) <| PR.op (ex_ld Fx.nag3 rfl (s25.blk_cell (.head _) rfl)) <| PR.op (ex_eq rfl rfl) <| PR.op (ex_move rfl) <| PR.nil) fun q100 F101 => ?_
  refine bool_split (a0.Command == a1.Command) (fun hb102 => ?_) (fun hb102 => ?_)
  · replace H := ite_t hb102 H
    refine st_gop F101 rfl rfl (look_b rfl hb102) (ex_fab Fx.fa35_1 rfl rfl) rfl rfl fun q103 F104 => ?_
    refine st_gop F104 rfl rfl (look_b rfl hb102) (ex_ld Fx.nag3 rfl (s25.blk_cell (.tail _ <| .head _) rfl)) rfl rfl fun q105 F106 => ?_
    refine st_gop F106 rfl rfl (look_b rfl hb102) (ex_fab Fx.fa35_1 rfl rfl) rfl rfl fun q107 F108 => ?_
    refine st_gop F108 rfl rfl (look_b rfl hb102) (ex_ld Fx.nag3 rfl (s25.blk_cell (.head _) rfl)) rfl rfl fun q109 F110 => ?_
    refine st_gop F110 rfl rfl (look_b rfl hb102) (ex_eq rfl rfl) rfl rfl fun q111 F112 => ?_
    refine st_pr F112 (PR.op (ex_pick_t (ev_b rfl hb102) rfl) <| PR.op (ex_move rfl) <| PR.nil) fun q113 F114 => ?_
    refine bool_split (a0.Number == a1.Number) (fun hb115 => ?_) (fun hb115 => ?_)
    · replace H := ite_t hb115 H
      refine st_gop F114 rfl rfl (look_b rfl hb115) (ex_fab Fx.fa35_2 rfl rfl) rfl rfl fun q116 F117 => ?_
      refine st_gop F117 rfl rfl (look_b rfl hb115) (ex_ld Fx.nag22 rfl (s25.blk_cell (.tail _ <| .head _) rfl)) rfl rfl fun q118 F119 => ?_
      refine st_gop F119 rfl rfl (look_b rfl hb115) (ex_fab Fx.fa35_2 rfl rfl) rfl rfl fun q120 F121 => ?_
      refine st_gop F121 rfl rfl (look_b rfl hb115) (ex_ld Fx.nag22 rfl (s25.blk_cell (.head _) rfl)) rfl rfl fun q122 F123 => ?_
      obtain ⟨x124, hx125, H⟩ := bind_ok H
      refine st_ungd F123 rfl (look_b rfl hb115) ?_
      refine st_call (args := [.tmp 19, .tmp 21]) F123 Fx.fn17 rfl (slices_Equal_byte_byte_c (a0 := a0.Data) (a1 := a1.Data)  (hr0_2.pass0 s25) (hr1_2.pass0 s25) hx125) rfl fun v126 w127 q128 hS130 F129 => ?_
      obtain ⟨rfl, hq132⟩ := hS130
      have s131 := s25.add hq132
      refine st_pr F129 (PR.op (ex_pick_t (ev_b rfl hb115) rfl) <| PR.op (ex_asg rfl) <| PR.nil) fun q133 F134 => ?_
      refine st_end ?_
      refine then_n ?_
      obtain rfl := some_ok H
      refine wp_ret ?_
      refine ret_gen (rs := [.tmp 4]) (vs := [.bool x124]) F134 (by rfl) ⟨_, _, rfl, RV.tmp rfl, rfl⟩ ⟨_, rfl, ⟨rfl, s131.drop.drop⟩⟩
    · replace H := ite_f hb115 H
      refine st_gskip F114 rfl rfl (look_b rfl hb115) Bool.noConfusion rfl rfl fun q135 F136 => ?_
      refine st_gskip F136 rfl rfl (look_b rfl hb115) Bool.noConfusion rfl rfl fun q137 F138 => ?_
      refine st_gskip F138 rfl rfl (look_b rfl hb115) Bool.noConfusion rfl rfl fun q139 F140 => ?_
      refine st_gskip F140 rfl rfl (look_b rfl hb115) Bool.noConfusion rfl rfl fun q141 F142 => ?_
      refine st_gskip F142 rfl rfl (look_b rfl hb115) Bool.noConfusion rfl rfl fun q143 F144 => ?_
      refine st_pr F144 (PR.op (ex_pick_f (ev_b rfl hb115) rfl) <| PR.op (ex_asg rfl) <| PR.nil) fun q145 F146 => ?_
      refine st_end ?_
      refine then_n ?_
      obtain rfl := some_ok H
      refine wp_ret ?_
      refine ret_gen (rs := [.tmp 4]) (vs := [.bool false]) F146 (by rfl) ⟨_, _, rfl, RV.tmp rfl, rfl⟩ ⟨_, rfl, ⟨rfl, s25.drop.drop⟩⟩
  · replace H := ite_f hb102 H
    refine st_gskip F101 rfl rfl (look_b rfl hb102) Bool.noConfusion rfl rfl fun q147 F148 => ?_
    refine st_gskip F148 rfl rfl (look_b rfl hb102) Bool.noConfusion rfl rfl fun q149 F150 => ?_
    refine st_gskip F150 rfl rfl (look_b rfl hb102) Bool.noConfusion rfl rfl fun q151 F152 => ?_
    refine st_gskip F152 rfl rfl (look_b rfl hb102) Bool.noConfusion rfl rfl fun q153 F154 => ?_
    refine st_gskip F154 rfl rfl (look_b rfl hb102) Bool.noConfusion rfl rfl fun q155 F156 => ?_
    refine st_pr F156 (PR.op (ex_pick_f (ev_b rfl hb102) rfl) <| PR.op (ex_move rfl) <| PR.nil) fun q157 F158 => ?_
    refine st_gskip F158 rfl rfl rfl Bool.noConfusion rfl rfl fun q159 F160 => ?_
    refine st_gskip F160 rfl rfl rfl Bool.noConfusion rfl rfl fun q161 F162 => ?_
    refine st_gskip F162 rfl rfl rfl Bool.noConfusion rfl rfl fun q163 F164 => ?_
    refine st_gskip F164 rfl rfl rfl Bool.noConfusion rfl rfl fun q165 F166 => ?_
    refine st_gskip F166 rfl rfl rfl Bool.noConfusion rfl rfl fun q167 F168 => ?_
    refine st_pr F168 (PR.op (ex_pick_f rfl rfl) <| PR.op (ex_asg rfl) <| PR.nil) fun q169 F170 => ?_
    refine st_end ?_
    refine then_n ?_
    obtain rfl := some_ok H
    refine wp_ret ?_
    refine ret_gen (rs := [.tmp 4]) (vs := [.bool false]) F170 (by rfl) ⟨_, _, rfl, RV.tmp rfl, rfl⟩ ⟨_, rfl, ⟨rfl, s25.drop.drop⟩⟩
end Go.Proofs.Ytpcdphfneidalaa
