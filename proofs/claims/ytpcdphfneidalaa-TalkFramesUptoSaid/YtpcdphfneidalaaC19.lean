/- The walk of proviso/provisoref24.Answered. -/
import Derived.Test.YtpcdphfneidalaaFx
import Derived.Test.YtpcdphfneidalaaDf
import Derived.Test.YtpcdphfneidalaaC36
import Derived.Test.YtpcdphfneidalaaC37
set_option linter.unusedVariables false
set_option linter.unusedSimpArgs false
namespace Go.Proofs.Ytpcdphfneidalaa
open Go Go.RowKit Go.Pv
theorem provisoref24_Answered_c {w : World} {v0_1 : Value} {a0 : S_api_Answer} {r : (List UInt8) × Int} (hr0_1 : Rd Ty.u8 w [] v0_1 a0.Data) (H : provisoref24_Answered a0 = some r) :
    Calls Try.prog 19 #[.agg ⟨[.int .i64 a0.Status, v0_1]⟩] w (Ret fun u_ w_ => ∃ u0 : Value, u_ = .tuple ⟨[u0, .int .i64 r.2]⟩ ∧ SL w [] w_ [Sl Ty.u8 u0 r.1]) := by
  have s0 : SL w [] w [] := SL.init0 w
  refine call_enter Try.func19 rfl Try.ntmps19 (Nat.le_of_ble_eq_true rfl) (args := [.agg ⟨[.int .i64 a0.Status, v0_1]⟩]) fun q0 F0 => ?_
  unfold provisoref24_Answered at H
  refine wp_seq ?_
  refine wp_reg ?_
  refine st_box F0 s0 rfl rfl rfl fun g9 w10 q11 F12 s13 => ?_
  refine st_pr F12 (PR.op (ex_asg rfl) <| PR.op (ex_asg rfl) <| PR.nil) fun q15 F16 => ?_
  refine st_end ?_
  refine then_n ?_
  refine wp_seq ?_
  refine wp_seq ?_
  refine wp_reg ?_
  refine st_pr F16 (PR.op (ex_fab Fx.fa41_0 rfl rfl) <| PR.op (ex_ld Fx.nag3 rfl (s13.blk_cell (.head _) rfl)) <| PR.op (ex_lt rfl rfl) <| PR.op (ex_move rfl) <| PR.nil) fun q45 F46 => ?_
  refine bool_split (decide (a0.Status < 0)) (fun hb47 => ?_) (fun hb47 => ?_)
  · replace H := ite_t hb47 H
    refine st_gskip F46 rfl rfl (look_b rfl hb47) Bool.noConfusion rfl rfl fun q48 F49 => ?_
    refine st_gskip F49 rfl rfl (look_b rfl hb47) Bool.noConfusion rfl rfl fun q50 F51 => ?_
    refine st_gskip F51 rfl rfl (look_b rfl hb47) Bool.noConfusion rfl rfl fun q52 F53 => ?_
    refine st_pr F53 (PR.op (ex_pick_t (ev_b rfl hb47) rfl) <| PR.nil) fun q54 F55 => ?_
    refine st_end ?_
    refine then_n ?_
    refine wp_if_t F55 rfl ?_
    refine wp_seq ?_
    refine wp_reg ?_
    refine st_pr F55 (PR.op (ex_asg rfl) <| PR.op (ex_asg rfl) <| PR.nil) fun q58 F59 => ?_
    refine st_end ?_
    refine then_n ?_
    obtain rfl := some_ok H
    refine wp_ret ?_
    refine then_r ?_
    refine ret_gen (rs := [.tmp 2, .tmp 3]) (vs := [.slice none 0 0, .int .i64 5]) F59 (by rfl) ⟨_, _, rfl, RV.tmp rfl, _, _, rfl, RV.tmp rfl, rfl⟩ ⟨_, rfl, ⟨(.slice none 0 0), rfl, (SL.nilSl (T := Ty.u8) s13).f1.drop⟩⟩
  · replace H := ite_f hb47 H
    refine st_gop F46 rfl rfl (look_b rfl hb47) (ex_fab Fx.fa41_0 rfl rfl) rfl rfl fun q60 F61 => ?_
    refine st_gop F61 rfl rfl (look_b rfl hb47) (ex_ld Fx.nag3 rfl (s13.blk_cell (.head _) rfl)) rfl rfl fun q62 F63 => ?_
    refine st_gop F63 rfl rfl (look_b rfl hb47) (ex_gt rfl rfl) rfl rfl fun q64 F65 => ?_
    refine st_pr F65 (PR.op (ex_pick_f (ev_b rfl hb47) rfl) <| PR.nil) fun q66 F67 => ?_
    refine st_end ?_
    refine then_n ?_
    refine wp_if F67 rfl (fun hb68 => ?_) (fun hb68 => ?_)
    · replace H := ite_t hb68 H
      refine wp_seq ?_
      refine wp_reg ?_
      refine st_pr F67 (PR.op (ex_asg rfl) <| PR.op (ex_asg rfl) <| PR.nil) fun q71 F72 => ?_
      refine st_end ?_
      refine then_n ?_
      obtain rfl := some_ok H
      refine wp_ret ?_
      refine then_r ?_
      refine ret_gen (rs := [.tmp 2, .tmp 3]) (vs := [.slice none 0 0, .int .i64 5]) F72 (by rfl) ⟨_, _, rfl, RV.tmp rfl, _, _, rfl, RV.tmp rfl, rfl⟩ ⟨_, rfl, ⟨(.slice none 0 0), rfl, (SL.nilSl (T := Ty.u8) s13).f1.drop⟩⟩
    · replace H := ite_f hb68 H
      refine wp_skip ?_
      refine then_n ?_
      refine wp_seq ?_
      refine wp_seq ?_
      refine wp_reg ?_
      refine st_pr F67 (PR.op (ex_fab Fx.fa41_1 rfl rfl) <| PR.op (ex_ld Fx.nag22 rfl (s13.blk_cell (.head _) rfl)) <| PR.op (ex_len rfl Try.underlying22 (formL (rdL hr0_1 s13))) <| PR.op (ex_gt rfl rfl) <| PR.nil) fun q84 F85 => ?_
      refine st_end ?_
      refine then_n ?_
      refine wp_if F85 rfl (fun hb86 => ?_) (fun hb86 => ?_)
      · replace H := ite_t hb86 H
        refine wp_seq ?_
        refine wp_reg ?_
        refine st_pr F85 (PR.op (ex_asg rfl) <| PR.op (ex_asg rfl) <| PR.nil) fun q89 F90 => ?_
        refine st_end ?_
        refine then_n ?_
        obtain rfl := some_ok H
        refine wp_ret ?_
        refine then_r ?_
        refine ret_gen (rs := [.tmp 2, .tmp 3]) (vs := [.slice none 0 0, .int .i64 4]) F90 (by rfl) ⟨_, _, rfl, RV.tmp rfl, _, _, rfl, RV.tmp rfl, rfl⟩ ⟨_, rfl, ⟨(.slice none 0 0), rfl, (SL.nilSl (T := Ty.u8) s13).f1.drop⟩⟩
      · replace H := ite_f hb86 H
        refine wp_skip ?_
        refine then_n ?_
        refine wp_seq ?_
        refine wp_reg ?_
        refine st_bslice (parts := [(0, .const (.int .u8 112))]) Flat.u8 ([(112 : UInt8)] : List UInt8) F85 s13 Fx.sl22 rfl (by decide) rfl rfl rfl (by simp [Value.cells]) rfl rfl rfl fun v118 w119 q120 F121 s122 => ?_
        obtain ⟨x124, hx125, H⟩ := bind_ok H
        refine st_pr F121 (PR.op (ex_fab Fx.fa41_0 rfl rfl) <| PR.op (ex_ld Fx.nag3 rfl (s122.blk_cell (.tail _ <| .head _) rfl)) <| PR.nil) fun q126 F127 => ?_
        have s135 := s122
        obtain ⟨G140, hst136, hF137, hG138, hcl139⟩ := SL.open_ (ps := [Sl Ty.u8 v118 ([(112 : UInt8)] : List UInt8)]) (rest := [Blk g9 41 [.int .i64 a0.Status, v0_1]]) s135
        refine st_call (args := [.tmp 17, .tmp 19]) F127 Fx.fn36 rfl (provisoref24_word_c (a0 := ([(112 : UInt8)] : List UInt8)) (a1 := a0.Status) hst136  hx125) rfl fun v128 w129 q130 hS132 F131 => ?_
        obtain ⟨_, rfl, hq134⟩ := hS132
        have s133 := hcl139 _ _ hq134
        refine st_pr F131 (PR.op (ex_asg rfl) <| PR.nil) fun q143 F144 => ?_
        refine st_end ?_
        refine then_n ?_
        refine wp_seq ?_
        refine wp_reg ?_
        refine st_pr F144 (PR.op (ex_move rfl) <| PR.op (ex_fab Fx.fa41_1 rfl rfl) <| PR.op (ex_ld Fx.nag22 rfl (s133.blk_cell (.tail _ <| .head _) rfl)) <| PR.op (ex_len rfl Try.underlying22 (formL (rdL hr0_1 s133))) <| PR.op (ex_cv8 rfl Try.underlying3 Try.underlying5) <| PR.nil) fun q163 F164 => ?_
        refine st_bslice (parts := [(0, .tmp 25)]) Flat.u8 ([toU8 (a0.Data.length : Int)] : List UInt8) F164 s133 Fx.sl22 rfl (by decide) rfl rfl rfl (by simp [Value.cells]) rfl rfl rfl fun v165 w166 q167 F168 s169 => ?_
        obtain ⟨x171, hx172, H⟩ := bind_ok H
        have s178 := s169.f1
        obtain ⟨_, hr_⟩ := (s178.own_rd (.tail _ <| .head _))
        refine st_append_rd Flat.u8 F168 s178 Fx.sl22 rfl rfl rfl rfl hr_ rfl rfl hx172 rfl fun v173 w174 q175 F176 s177 => ?_
        have s177' := s177.f1.drop
        refine st_pr F176 (PR.op (ex_asg rfl) <| PR.nil) fun q179 F180 => ?_
        refine st_end ?_
        refine then_n ?_
        refine wp_seq ?_
        refine wp_reg ?_
        obtain ⟨x204, hx205, H⟩ := bind_ok H
        refine st_pr F180 (PR.op (ex_move rfl) <| PR.op (ex_fab Fx.fa41_1 rfl rfl) <| PR.op (ex_ld Fx.nag22 rfl (s177'.blk_cell (.tail _ <| .head _) rfl)) <| PR.nil) fun q206 F207 => ?_
        have s213 := s177'
        obtain ⟨_, hr_⟩ := (rdL hr0_1 s213)
        refine st_append_rd Flat.u8 F207 s213 Fx.sl22 rfl rfl rfl rfl hr_ rfl rfl hx205 rfl fun v208 w209 q210 F211 s212 => ?_
        obtain ⟨x214, hx215, H⟩ := bind_ok H
        refine st_call (args := [.tmp 31]) F211 Fx.fn37 rfl (provisoref16_Summed_c (a0 := x204)  (s212.rd0 (.head _)) hx215) rfl fun v216 w217 q218 hS220 F219 => ?_
        obtain ⟨_, rfl, hq222⟩ := hS220
        have s221 := s212.add hq222
        refine st_pr F219 (PR.op (ex_asg rfl) <| PR.op (ex_asg rfl) <| PR.nil) fun q225 F226 => ?_
        refine st_end ?_
        refine then_n ?_
        obtain rfl := some_ok H
        refine wp_ret ?_
        refine ret_gen (rs := [.tmp 2, .tmp 3]) (vs := [v216, .int .i64 0]) F226 (by rfl) ⟨_, _, rfl, RV.tmp rfl, _, _, rfl, RV.tmp rfl, rfl⟩ ⟨_, rfl, ⟨v216, rfl, s221.f1.drop.f1.drop⟩⟩
end Go.Proofs.Ytpcdphfneidalaa
