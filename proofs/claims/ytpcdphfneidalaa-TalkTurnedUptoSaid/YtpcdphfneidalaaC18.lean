/- The walk of proviso/talk.Told. -/
import Derived.Test.YtpcdphfneidalaaFx
import Derived.Test.YtpcdphfneidalaaDf
import Derived.Test.YtpcdphfneidalaaC30
import Derived.Test.YtpcdphfneidalaaC31
import Derived.Test.YtpcdphfneidalaaC32
import Derived.Test.YtpcdphfneidalaaC33
import Derived.Test.YtpcdphfneidalaaC34
import Derived.Test.YtpcdphfneidalaaC35
set_option linter.unusedVariables false
set_option linter.unusedSimpArgs false
namespace Go.Proofs.Ytpcdphfneidalaa
open Go Go.RowKit Go.Pv
theorem talk_Told_c {w : World} {v0_1 : Value} {a0 : S_api_Answer} {r : (List UInt8) × Int} (hr0_1 : Rd Ty.u8 w [] v0_1 a0.Data) (H : talk_Told a0 = some r) :
    Calls Try.prog 18 #[.agg ⟨[.int .i64 a0.Status, v0_1]⟩] w (Ret fun u_ w_ => ∃ u0 : Value, u_ = .tuple ⟨[u0, .int .i64 r.2]⟩ ∧ SL w [] w_ [Sl Ty.u8 u0 r.1]) := by
  have s0 : SL w [] w [] := SL.init0 w
  refine call_enter Try.func18 rfl Try.ntmps18 (Nat.le_of_ble_eq_true rfl) (args := [.agg ⟨[.int .i64 a0.Status, v0_1]⟩]) fun q0 F0 => ?_
  unfold talk_Told at H
  refine wp_seq ?_
  refine wp_reg ?_
  refine st_box F0 s0 rfl rfl rfl fun g9 w10 q11 F12 s13 => ?_
  refine st_pr F12 (PR.op (ex_asg rfl) <| PR.op (ex_asg rfl) <| PR.nil) fun q15 F16 => ?_
  refine st_end ?_
  refine then_n ?_
  refine wp_seq ?_
  refine wp_block ?_
  refine wp_seq ?_
  refine wp_reg ?_
  obtain ⟨x70, hx71, H⟩ := bind_ok H
  refine st_pr F16 (PR.op (ex_fab Fx.fa41_0 rfl rfl) <| PR.op (ex_ld Fx.nag3 rfl (s13.blk_cell (.head _) rfl)) <| PR.nil) fun q72 F73 => ?_
  refine st_call (args := [.tmp 7, .const (.int .i64 65535)]) F73 Fx.fn30 rfl (talk_small_c (a0 := a0.Status) (a1 := 65535)   hx71) rfl fun v74 w75 q76 hS78 F77 => ?_
  obtain ⟨rfl, hq80⟩ := hS78
  have s79 := s13.add hq80
  refine st_pr F77 (PR.op (ex_not rfl) <| PR.op (ex_asg rfl) <| PR.nil) fun q81 F82 => ?_
  refine st_end ?_
  refine then_n ?_
  refine wp_if F82 rfl (fun hb83 => ?_) (fun hb83 => ?_)
  · replace H := ite_t hb83 H
    refine wp_seq ?_
    refine wp_reg ?_
    refine st_pr F82 (PR.op (ex_asg rfl) <| PR.op (ex_asg rfl) <| PR.nil) fun q86 F87 => ?_
    refine st_end ?_
    refine then_n ?_
    obtain rfl := some_ok H
    refine wp_ret ?_
    refine blk_r <| then_r ?_
    refine ret_gen (rs := [.tmp 2, .tmp 3]) (vs := [.slice none 0 0, .int .i64 5]) F87 (by rfl) ⟨_, _, rfl, RV.tmp rfl, _, _, rfl, RV.tmp rfl, rfl⟩ ⟨_, rfl, ⟨(.slice none 0 0), rfl, (SL.nilSl (T := Ty.u8) s79).f1.drop⟩⟩
  · replace H := ite_f hb83 H
    refine wp_seq ?_
    refine wp_reg ?_
    refine st_pr F82 (PR.op (ex_fab Fx.fa41_1 rfl rfl) <| PR.op (ex_ld Fx.nag22 rfl (s79.blk_cell (.head _) rfl)) <| PR.op (ex_len rfl Try.underlying22 (formL (rdL hr0_1 s79))) <| PR.op (ex_gt rfl rfl) <| PR.op (ex_asg rfl) <| PR.nil) fun q90 F91 => ?_
    refine st_end ?_
    refine then_n ?_
    refine wp_if F91 rfl (fun hb92 => ?_) (fun hb92 => ?_)
    · replace H := ite_t hb92 H
      refine wp_seq ?_
      refine wp_reg ?_
      refine st_pr F91 (PR.op (ex_asg rfl) <| PR.op (ex_asg rfl) <| PR.nil) fun q95 F96 => ?_
      refine st_end ?_
      refine then_n ?_
      obtain rfl := some_ok H
      refine wp_ret ?_
      refine blk_r <| then_r ?_
      refine ret_gen (rs := [.tmp 2, .tmp 3]) (vs := [.slice none 0 0, .int .i64 4]) F96 (by rfl) ⟨_, _, rfl, RV.tmp rfl, _, _, rfl, RV.tmp rfl, rfl⟩ ⟨_, rfl, ⟨(.slice none 0 0), rfl, (SL.nilSl (T := Ty.u8) s79).f1.drop⟩⟩
    · replace H := ite_f hb92 H
      refine wp_skip ?_
      refine blk_n ?_
      refine then_n ?_
      refine wp_seq ?_
      refine wp_reg ?_
      obtain ⟨x112, hx113, H⟩ := bind_ok H
      refine st_call (args := []) F91 Fx.fn31 rfl (wire_New_c    hx113) rfl fun v114 w115 q116 hS118 F117 => ?_
      obtain ⟨g121, v123, rfl, hq120⟩ := hS118
      have s119 := s79.add hq120
      refine st_pr F117 (PR.op (ex_asg rfl) <| PR.nil) fun q125 F126 => ?_
      refine st_end ?_
      refine then_n ?_
      refine wp_seq ?_
      refine wp_reg ?_
      obtain ⟨x146, hx147, H⟩ := bind_ok H
      refine st_pr F126 (PR.op (ex_move rfl) <| PR.nil) fun q148 F149 => ?_
      have s157 := s119.f1.f1
      obtain ⟨G162, hst158, hF159, hG160, hcl161⟩ := SL.open_ (ps := [Blk g121 75 [v123, .bool x112.made], Sl Ty.u8 v123 x112.b]) (rest := [Blk g9 41 [.int .i64 a0.Status, v0_1]]) s157
      refine st_call (args := [.tmp 16, .const (.int .i64 112)]) F149 Fx.fn32 rfl (wire_Writer_Byte_c (a0 := (⟨x112.b, x112.made⟩ : S_wire_Writer)) (a1 := 112) hst158  hx147) rfl fun v150 w151 q152 hS154 F153 => ?_
      obtain ⟨v163, rfl, hq156⟩ := hS154
      have s155 := hcl161 _ _ hq156
      refine st_end ?_
      refine then_n ?_
      refine wp_seq ?_
      refine wp_reg ?_
      obtain ⟨x184, hx185, H⟩ := bind_ok H
      refine st_pr F153 (PR.op (ex_move rfl) <| PR.op (ex_fab Fx.fa41_0 rfl rfl) <| PR.op (ex_ld Fx.nag3 rfl (s155.blk_cell (.tail _ <| .tail _ <| .head _) rfl)) <| PR.nil) fun q186 F187 => ?_
      have s195 := s155.f1.f1
      obtain ⟨G200, hst196, hF197, hG198, hcl199⟩ := SL.open_ (ps := [Blk g121 75 [v163, .bool x146.2.made], Sl Ty.u8 v163 x146.2.b]) (rest := [Blk g9 41 [.int .i64 a0.Status, v0_1]]) s195
      refine st_call (args := [.tmp 18, .tmp 20]) F187 Fx.fn33 rfl (wire_Writer_Word_c (a0 := (⟨x146.2.b, x146.2.made⟩ : S_wire_Writer)) (a1 := a0.Status) hst196  hx185) rfl fun v188 w189 q190 hS192 F191 => ?_
      obtain ⟨v201, rfl, hq194⟩ := hS192
      have s193 := hcl199 _ _ hq194
      refine st_end ?_
      refine then_n ?_
      refine wp_seq ?_
      refine wp_reg ?_
      obtain ⟨x222, hx223, H⟩ := bind_ok H
      refine st_pr F191 (PR.op (ex_move rfl) <| PR.op (ex_fab Fx.fa41_1 rfl rfl) <| PR.op (ex_ld Fx.nag22 rfl (s193.blk_cell (.tail _ <| .tail _ <| .head _) rfl)) <| PR.op (ex_len rfl Try.underlying22 (formL (rdL hr0_1 s193))) <| PR.nil) fun q224 F225 => ?_
      have s233 := s193.f1.f1
      obtain ⟨G238, hst234, hF235, hG236, hcl237⟩ := SL.open_ (ps := [Blk g121 75 [v201, .bool x184.2.made], Sl Ty.u8 v201 x184.2.b]) (rest := [Blk g9 41 [.int .i64 a0.Status, v0_1]]) s233
      refine st_call (args := [.tmp 22, .tmp 25]) F225 Fx.fn32 rfl (wire_Writer_Byte_c (a0 := (⟨x184.2.b, x184.2.made⟩ : S_wire_Writer)) (a1 := (a0.Data.length : Int)) hst234  hx223) rfl fun v226 w227 q228 hS230 F229 => ?_
      obtain ⟨v239, rfl, hq232⟩ := hS230
      have s231 := hcl237 _ _ hq232
      refine st_end ?_
      refine then_n ?_
      refine wp_seq ?_
      refine wp_reg ?_
      obtain ⟨x260, hx261, H⟩ := bind_ok H
      refine st_pr F229 (PR.op (ex_move rfl) <| PR.op (ex_fab Fx.fa41_1 rfl rfl) <| PR.op (ex_ld Fx.nag22 rfl (s231.blk_cell (.tail _ <| .tail _ <| .head _) rfl)) <| PR.nil) fun q262 F263 => ?_
      have s271 := s231.f1.f1
      obtain ⟨G276, hst272, hF273, hG274, hcl275⟩ := SL.open_ (ps := [Blk g121 75 [v239, .bool x222.2.made], Sl Ty.u8 v239 x222.2.b]) (rest := [Blk g9 41 [.int .i64 a0.Status, v0_1]]) s271
      refine st_call (args := [.tmp 27, .tmp 29]) F263 Fx.fn34 rfl (wire_Writer_Put_c (a0 := (⟨x222.2.b, x222.2.made⟩ : S_wire_Writer)) (a1 := a0.Data) hst272 (hr0_1.pass s271 hF273) hx261) rfl fun v264 w265 q266 hS268 F267 => ?_
      obtain ⟨v277, rfl, hq270⟩ := hS268
      have s269 := hcl275 _ _ hq270
      refine st_end ?_
      refine then_n ?_
      refine wp_seq ?_
      refine wp_reg ?_
      obtain ⟨x302, hx303, H⟩ := bind_ok H
      refine st_pr F267 (PR.op (ex_move rfl) <| PR.nil) fun q304 F305 => ?_
      have s313 := s269.f1.f1
      obtain ⟨G318, hst314, hF315, hG316, hcl317⟩ := SL.open_ (ps := [Blk g121 75 [v277, .bool x260.2.made], Sl Ty.u8 v277 x260.2.b]) (rest := [Blk g9 41 [.int .i64 a0.Status, v0_1]]) s313
      refine st_call (args := [.tmp 31]) F305 Fx.fn35 rfl (talk_framed_c (a0 := (⟨x260.2.b, x260.2.made⟩ : S_wire_Writer)) hst314  hx303) rfl fun v306 w307 q308 hS310 F309 => ?_
      obtain ⟨v319, _, rfl, hq312⟩ := hS310
      have s311 := hcl317 _ _ hq312
      refine st_pr F309 (PR.op (ex_asg rfl) <| PR.op (ex_asg rfl) <| PR.nil) fun q323 F324 => ?_
      refine st_end ?_
      refine then_n ?_
      obtain rfl := some_ok H
      refine wp_ret ?_
      refine ret_gen (rs := [.tmp 2, .tmp 3]) (vs := [v306, .int .i64 0]) F324 (by rfl) ⟨_, _, rfl, RV.tmp rfl, _, _, rfl, RV.tmp rfl, rfl⟩ ⟨_, rfl, ⟨v306, rfl, s311.drop.drop.f1.drop⟩⟩
end Go.Proofs.Ytpcdphfneidalaa
