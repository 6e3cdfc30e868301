/- The walk of proviso/talk.Pack. -/
import Derived.Test.YtpcdphfneidalaaFx
import Derived.Test.YtpcdphfneidalaaDf
import Derived.Test.YtpcdphfneidalaaC30
import Derived.Test.YtpcdphfneidalaaC31
import Derived.Test.YtpcdphfneidalaaC32
import Derived.Test.YtpcdphfneidalaaC33
import Derived.Test.YtpcdphfneidalaaC34
import Derived.Test.YtpcdphfneidalaaC35
set_option linter.unusedVariables false
set_option linter.unusedSimpArgs false
namespace Go.Proofs.Ytpcdphfneidalaa
open Go Go.RowKit Go.Pv
theorem talk_Pack_c {w : World} {v0_2 : Value} {a0 : S_api_Request} {r : (List UInt8) × Int} (hr0_2 : Rd Ty.u8 w [] v0_2 a0.Data) (H : talk_Pack a0 = some r) :
    Calls Try.prog 15 #[.agg ⟨[.int .i64 a0.Command, .int .i64 a0.Number, v0_2]⟩] w (Ret fun u_ w_ => ∃ u0 : Value, u_ = .tuple ⟨[u0, .int .i64 r.2]⟩ ∧ SL w [] w_ [Sl Ty.u8 u0 r.1]) := by
  have s0 : SL w [] w [] := SL.init0 w
  refine call_enter Try.func15 rfl Try.ntmps15 (Nat.le_of_ble_eq_true rfl) (args := [.agg ⟨[.int .i64 a0.Command, .int .i64 a0.Number, v0_2]⟩]) fun q0 F0 => ?_
  unfold talk_Pack at H
  refine wp_seq ?_
  refine wp_reg ?_
  refine st_box F0 s0 rfl rfl rfl fun g9 w10 q11 F12 s13 => ?_
  refine st_pr F12 (PR.op (ex_asg rfl) <| PR.op (ex_asg rfl) <| PR.nil) fun q15 F16 => ?_
  refine st_end ?_
  refine then_n ?_
  refine wp_seq ?_
  refine wp_block ?_
  refine wp_seq ?_
  refine wp_reg ?_
  obtain ⟨x76, hx77, H⟩ := bind_ok H
  refine st_pr F16 (PR.op (ex_fab Fx.fa35_0 rfl rfl) <| PR.op (ex_ld Fx.nag3 rfl (s13.blk_cell (.head _) rfl)) <| PR.nil) fun q78 F79 => ?_
  refine st_call (args := [.tmp 7, .const (.int .i64 255)]) F79 Fx.fn30 rfl (talk_small_c (a0 := a0.Command) (a1 := 255)   hx77) rfl fun v80 w81 q82 hS84 F83 => ?_
  obtain ⟨rfl, hq86⟩ := hS84
  have s85 := s13.add hq86
  refine st_pr F83 (PR.op (ex_not rfl) <| PR.op (ex_move rfl) <| PR.nil) fun q87 F88 => ?_
  refine bool_split (!x76) (fun hb89 => ?_) (fun hb89 => ?_)
  · replace H := ite_t hb89 H
    refine st_gskip F88 rfl rfl (look_b rfl hb89) Bool.noConfusion rfl rfl fun q90 F91 => ?_
    refine st_gskip F91 rfl rfl (look_b rfl hb89) Bool.noConfusion rfl rfl fun q92 F93 => ?_
    refine st_gskip F93 rfl rfl (look_b rfl hb89) Bool.noConfusion rfl rfl fun q94 F95 => ?_
    refine st_gskip F95 rfl rfl (look_b rfl hb89) Bool.noConfusion rfl rfl fun q96 F97 => ?_
    refine st_pr F97 (PR.op (ex_pick_t (ev_b rfl hb89) rfl) <| PR.op (ex_asg rfl) <| PR.nil) fun q98 F99 => ?_
    refine st_end ?_
    refine then_n ?_
    refine wp_if_t F99 rfl ?_
    refine wp_seq ?_
    refine wp_reg ?_
    refine st_pr F99 (PR.op (ex_asg rfl) <| PR.op (ex_asg rfl) <| PR.nil) fun q102 F103 => ?_
    refine st_end ?_
    refine then_n ?_
    obtain rfl := some_ok H
    refine wp_ret ?_
    refine blk_r <| then_r ?_
    refine ret_gen (rs := [.tmp 2, .tmp 3]) (vs := [.slice none 0 0, .int .i64 5]) F103 (by rfl) ⟨_, _, rfl, RV.tmp rfl, _, _, rfl, RV.tmp rfl, rfl⟩ ⟨_, rfl, ⟨(.slice none 0 0), rfl, (SL.nilSl (T := Ty.u8) s85).f1.drop⟩⟩
  · replace H := ite_f hb89 H
    refine st_gop F88 rfl rfl (look_b rfl hb89) (ex_fab Fx.fa35_1 rfl rfl) rfl rfl fun q104 F105 => ?_
    refine st_gop F105 rfl rfl (look_b rfl hb89) (ex_ld Fx.nag3 rfl (s85.blk_cell (.head _) rfl)) rfl rfl fun q106 F107 => ?_
    obtain ⟨x108, hx109, H⟩ := bind_ok H
    refine st_ungd F107 rfl (look_b rfl hb89) ?_
    refine st_call (args := [.tmp 12, .const (.int .i64 65535)]) F107 Fx.fn30 rfl (talk_small_c (a0 := a0.Number) (a1 := 65535)   hx109) rfl fun v110 w111 q112 hS114 F113 => ?_
    obtain ⟨rfl, hq116⟩ := hS114
    have s115 := s85.add hq116
    refine st_gop F113 rfl rfl (look_b rfl hb89) (ex_not rfl) rfl rfl fun q117 F118 => ?_
    refine st_pr F118 (PR.op (ex_pick_f (ev_b rfl hb89) rfl) <| PR.op (ex_asg rfl) <| PR.nil) fun q119 F120 => ?_
    refine st_end ?_
    refine then_n ?_
    refine wp_if F120 rfl (fun hb121 => ?_) (fun hb121 => ?_)
    · replace H := ite_t hb121 H
      refine wp_seq ?_
      refine wp_reg ?_
      refine st_pr F120 (PR.op (ex_asg rfl) <| PR.op (ex_asg rfl) <| PR.nil) fun q124 F125 => ?_
      refine st_end ?_
      refine then_n ?_
      obtain rfl := some_ok H
      refine wp_ret ?_
      refine blk_r <| then_r ?_
      refine ret_gen (rs := [.tmp 2, .tmp 3]) (vs := [.slice none 0 0, .int .i64 5]) F125 (by rfl) ⟨_, _, rfl, RV.tmp rfl, _, _, rfl, RV.tmp rfl, rfl⟩ ⟨_, rfl, ⟨(.slice none 0 0), rfl, (SL.nilSl (T := Ty.u8) s115).f1.drop⟩⟩
    · replace H := ite_f hb121 H
      refine wp_seq ?_
      refine wp_reg ?_
      refine st_pr F120 (PR.op (ex_fab Fx.fa35_2 rfl rfl) <| PR.op (ex_ld Fx.nag22 rfl (s115.blk_cell (.head _) rfl)) <| PR.op (ex_len rfl Try.underlying22 (formL (rdL hr0_2 s115))) <| PR.op (ex_gt rfl rfl) <| PR.op (ex_asg rfl) <| PR.nil) fun q128 F129 => ?_
      refine st_end ?_
      refine then_n ?_
      refine wp_if F129 rfl (fun hb130 => ?_) (fun hb130 => ?_)
      · replace H := ite_t hb130 H
        refine wp_seq ?_
        refine wp_reg ?_
        refine st_pr F129 (PR.op (ex_asg rfl) <| PR.op (ex_asg rfl) <| PR.nil) fun q133 F134 => ?_
        refine st_end ?_
        refine then_n ?_
        obtain rfl := some_ok H
        refine wp_ret ?_
        refine blk_r <| then_r ?_
        refine ret_gen (rs := [.tmp 2, .tmp 3]) (vs := [.slice none 0 0, .int .i64 4]) F134 (by rfl) ⟨_, _, rfl, RV.tmp rfl, _, _, rfl, RV.tmp rfl, rfl⟩ ⟨_, rfl, ⟨(.slice none 0 0), rfl, (SL.nilSl (T := Ty.u8) s115).f1.drop⟩⟩
      · replace H := ite_f hb130 H
        refine wp_skip ?_
        refine blk_n ?_
        refine then_n ?_
        refine wp_seq ?_
        refine wp_reg ?_
        obtain ⟨x150, hx151, H⟩ := bind_ok H
        refine st_call (args := []) F129 Fx.fn31 rfl (wire_New_c    hx151) rfl fun v152 w153 q154 hS156 F155 => ?_
        obtain ⟨g159, v161, rfl, hq158⟩ := hS156
        have s157 := s115.add hq158
        refine st_pr F155 (PR.op (ex_asg rfl) <| PR.nil) fun q163 F164 => ?_
        refine st_end ?_
        refine then_n ?_
        refine wp_seq ?_
        refine wp_reg ?_
        obtain ⟨x184, hx185, H⟩ := bind_ok H
        refine st_pr F164 (PR.op (ex_move rfl) <| PR.nil) fun q186 F187 => ?_
        have s195 := s157.f1.f1
        obtain ⟨G200, hst196, hF197, hG198, hcl199⟩ := SL.open_ (ps := [Blk g159 75 [v161, .bool x150.made], Sl Ty.u8 v161 x150.b]) (rest := [Blk g9 35 [.int .i64 a0.Command, .int .i64 a0.Number, v0_2]]) s195
        refine st_call (args := [.tmp 22, .const (.int .i64 80)]) F187 Fx.fn32 rfl (wire_Writer_Byte_c (a0 := (⟨x150.b, x150.made⟩ : S_wire_Writer)) (a1 := 80) hst196  hx185) rfl fun v188 w189 q190 hS192 F191 => ?_
        obtain ⟨v201, rfl, hq194⟩ := hS192
        have s193 := hcl199 _ _ hq194
        refine st_end ?_
        refine then_n ?_
        refine wp_seq ?_
        refine wp_reg ?_
        obtain ⟨x222, hx223, H⟩ := bind_ok H
        refine st_pr F191 (PR.op (ex_move rfl) <| PR.op (ex_fab Fx.fa35_0 rfl rfl) <| PR.op (ex_ld Fx.nag3 rfl (s193.blk_cell (.tail _ <| .tail _ <| .head _) rfl)) <| PR.nil) fun q224 F225 => ?_
        have s233 := s193.f1.f1
        obtain ⟨G238, hst234, hF235, hG236, hcl237⟩ := SL.open_ (ps := [Blk g159 75 [v201, .bool x184.2.made], Sl Ty.u8 v201 x184.2.b]) (rest := [Blk g9 35 [.int .i64 a0.Command, .int .i64 a0.Number, v0_2]]) s233
        refine st_call (args := [.tmp 24, .tmp 26]) F225 Fx.fn32 rfl (wire_Writer_Byte_c (a0 := (⟨x184.2.b, x184.2.made⟩ : S_wire_Writer)) (a1 := a0.Command) hst234  hx223) rfl fun v226 w227 q228 hS230 F229 => ?_
        obtain ⟨v239, rfl, hq232⟩ := hS230
        have s231 := hcl237 _ _ hq232
        refine st_end ?_
        refine then_n ?_
        refine wp_seq ?_
        refine wp_reg ?_
        obtain ⟨x260, hx261, H⟩ := bind_ok H
        refine st_pr F229 (PR.op (ex_move rfl) <| PR.op (ex_fab Fx.fa35_1 rfl rfl) <| PR.op (ex_ld Fx.nag3 rfl (s231.blk_cell (.tail _ <| .tail _ <| .head _) rfl)) <| PR.nil) fun q262 F263 => ?_
        have s271 := s231.f1.f1
        obtain ⟨G276, hst272, hF273, hG274, hcl275⟩ := SL.open_ (ps := [Blk g159 75 [v239, .bool x222.2.made], Sl Ty.u8 v239 x222.2.b]) (rest := [Blk g9 35 [.int .i64 a0.Command, .int .i64 a0.Number, v0_2]]) s271
        refine st_call (args := [.tmp 28, .tmp 30]) F263 Fx.fn33 rfl (wire_Writer_Word_c (a0 := (⟨x222.2.b, x222.2.made⟩ : S_wire_Writer)) (a1 := a0.Number) hst272  hx261) rfl fun v264 w265 q266 hS268 F267 => ?_
        obtain ⟨v277, rfl, hq270⟩ := hS268
        have s269 := hcl275 _ _ hq270
        refine st_end ?_
        refine then_n ?_
        refine wp_seq ?_
        refine wp_reg ?_
        obtain ⟨x298, hx299, H⟩ := bind_ok H
        refine st_pr F267 (PR.op (ex_move rfl) <| PR.op (ex_fab Fx.fa35_2 rfl rfl) <| PR.op (ex_ld Fx.nag22 rfl (s269.blk_cell (.tail _ <| .tail _ <| .head _) rfl)) <| PR.op (ex_len rfl Try.underlying22 (formL (rdL hr0_2 s269))) <| PR.nil) fun q300 F301 => ?_
        have s309 := s269.f1.f1
        obtain ⟨G314, hst310, hF311, hG312, hcl313⟩ := SL.open_ (ps := [Blk g159 75 [v277, .bool x260.2.made], Sl Ty.u8 v277 x260.2.b]) (rest := [Blk g9 35 [.int .i64 a0.Command, .int .i64 a0.Number, v0_2]]) s309
        refine st_call (args := [.tmp 32, .tmp 35]) F301 Fx.fn32 rfl (wire_Writer_Byte_c (a0 := (⟨x260.2.b, x260.2.made⟩ : S_wire_Writer)) (a1 := (a0.Data.length : Int)) hst310  hx299) rfl fun v302 w303 q304 hS306 F305 => ?_
        obtain ⟨v315, rfl, hq308⟩ := hS306
        have s307 := hcl313 _ _ hq308
        refine st_end ?_
        refine then_n ?_
        refine wp_seq ?_
        refine wp_reg ?_
        obtain ⟨x336, hx337, H⟩ := bind_ok H
        refine st_pr F305 (PR.op (ex_move rfl) <| PR.op (ex_fab Fx.fa35_2 rfl rfl) <| PR.op (ex_ld Fx.nag22 rfl (s307.blk_cell (.tail _ <| .tail _ <| .head _) rfl)) <| PR.nil) fun q338 F339 => ?_
        have s347 := s307.f1.f1
        obtain ⟨G352, hst348, hF349, hG350, hcl351⟩ := SL.open_ (ps := [Blk g159 75 [v315, .bool x298.2.made], Sl Ty.u8 v315 x298.2.b]) (rest := [Blk g9 35 [.int .i64 a0.Command, .int .i64 a0.Number, v0_2]]) s347
        refine st_call (args := [.tmp 37, .tmp 39]) F339 Fx.fn34 rfl (wire_Writer_Put_c (a0 := (⟨x298.2.b, x298.2.made⟩ : S_wire_Writer)) (a1 := a0.Data) hst348 (hr0_2.pass s347 hF349) hx337) rfl fun v340 w341 q342 hS344 F343 => ?_
        obtain ⟨v353, rfl, hq346⟩ := hS344
        have s345 := hcl351 _ _ hq346
        refine st_end ?_
        refine then_n ?_
        refine wp_seq ?_
        refine wp_reg ?_
        obtain ⟨x378, hx379, H⟩ := bind_ok H
        refine st_pr F343 (PR.op (ex_move rfl) <| PR.nil) fun q380 F381 => ?_
        have s389 := s345.f1.f1
        obtain ⟨G394, hst390, hF391, hG392, hcl393⟩ := SL.open_ (ps := [Blk g159 75 [v353, .bool x336.2.made], Sl Ty.u8 v353 x336.2.b]) (rest := [Blk g9 35 [.int .i64 a0.Command, .int .i64 a0.Number, v0_2]]) s389
        refine st_call (args := [.tmp 41]) F381 Fx.fn35 rfl (talk_framed_c (a0 := (⟨x336.2.b, x336.2.made⟩ : S_wire_Writer)) hst390  hx379) rfl fun v382 w383 q384 hS386 F385 => ?_
        obtain ⟨v395, _, rfl, hq388⟩ := hS386
        have s387 := hcl393 _ _ hq388
        refine st_pr F385 (PR.op (ex_asg rfl) <| PR.op (ex_asg rfl) <| PR.nil) fun q399 F400 => ?_
        refine st_end ?_
        refine then_n ?_
        obtain rfl := some_ok H
        refine wp_ret ?_
        refine ret_gen (rs := [.tmp 2, .tmp 3]) (vs := [v382, .int .i64 0]) F400 (by rfl) ⟨_, _, rfl, RV.tmp rfl, _, _, rfl, RV.tmp rfl, rfl⟩ ⟨_, rfl, ⟨v382, rfl, s387.drop.drop.f1.drop⟩⟩
end Go.Proofs.Ytpcdphfneidalaa
