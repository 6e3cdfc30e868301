/- The walk of proviso/provisoref24.Pack. -/
import Derived.Test.YtpcdphfneidalaaFx
import Derived.Test.YtpcdphfneidalaaDf
import Derived.Test.YtpcdphfneidalaaC36
import Derived.Test.YtpcdphfneidalaaC37
set_option linter.unusedVariables false
set_option linter.unusedSimpArgs false
namespace Go.Proofs.Ytpcdphfneidalaa
open Go Go.RowKit Go.Pv
theorem provisoref24_Pack_c {w : World} {v0_2 : Value} {a0 : S_api_Request} {r : (List UInt8) × Int} (hr0_2 : Rd Ty.u8 w [] v0_2 a0.Data) (H : provisoref24_Pack a0 = some r) :
    Calls Try.prog 16 #[.agg ⟨[.int .i64 a0.Command, .int .i64 a0.Number, v0_2]⟩] w (Ret fun u_ w_ => ∃ u0 : Value, u_ = .tuple ⟨[u0, .int .i64 r.2]⟩ ∧ SL w [] w_ [Sl Ty.u8 u0 r.1]) := by
  have s0 : SL w [] w [] := SL.init0 w
  refine call_enter Try.func16 rfl Try.ntmps16 (Nat.le_of_ble_eq_true rfl) (args := [.agg ⟨[.int .i64 a0.Command, .int .i64 a0.Number, v0_2]⟩]) fun q0 F0 => ?_
  unfold provisoref24_Pack at H
  refine wp_seq ?_
  refine wp_reg ?_
  refine st_box F0 s0 rfl rfl rfl fun g9 w10 q11 F12 s13 => ?_
  refine st_pr F12 (PR.op (ex_asg rfl) <| PR.op (ex_asg rfl) <| PR.nil) fun q15 F16 => ?_
  refine st_end ?_
  refine then_n ?_
  refine wp_seq ?_
  refine wp_seq ?_
  refine wp_reg ?_
  refine st_pr F16 (PR.op (ex_fab Fx.fa35_0 rfl rfl) <| PR.op (ex_ld Fx.nag3 rfl (s13.blk_cell (.head _) rfl)) <| PR.op (ex_lt rfl rfl) <| PR.op (ex_move rfl) <| PR.nil) fun q111 F112 => ?_
  refine bool_split (decide (a0.Command < 0)) (fun hb113 => ?_) (fun hb113 => ?_)
  · replace H := ite_t hb113 H
    refine st_gskip F112 rfl rfl (look_b rfl hb113) Bool.noConfusion rfl rfl fun q114 F115 => ?_
    refine st_gskip F115 rfl rfl (look_b rfl hb113) Bool.noConfusion rfl rfl fun q116 F117 => ?_
    refine st_gskip F117 rfl rfl (look_b rfl hb113) Bool.noConfusion rfl rfl fun q118 F119 => ?_
    refine st_pr F119 (PR.op (ex_pick_t (ev_b rfl hb113) rfl) <| PR.op (ex_move rfl) <| PR.nil) fun q120 F121 => ?_
    refine st_gskip F121 rfl rfl rfl Bool.noConfusion rfl rfl fun q122 F123 => ?_
    refine st_gskip F123 rfl rfl rfl Bool.noConfusion rfl rfl fun q124 F125 => ?_
    refine st_gskip F125 rfl rfl rfl Bool.noConfusion rfl rfl fun q126 F127 => ?_
    refine st_pr F127 (PR.op (ex_pick_t rfl rfl) <| PR.op (ex_move rfl) <| PR.nil) fun q128 F129 => ?_
    refine st_gskip F129 rfl rfl rfl Bool.noConfusion rfl rfl fun q130 F131 => ?_
    refine st_gskip F131 rfl rfl rfl Bool.noConfusion rfl rfl fun q132 F133 => ?_
    refine st_gskip F133 rfl rfl rfl Bool.noConfusion rfl rfl fun q134 F135 => ?_
    refine st_pr F135 (PR.op (ex_pick_t rfl rfl) <| PR.nil) fun q136 F137 => ?_
    refine st_end ?_
    refine then_n ?_
    refine wp_if_t F137 rfl ?_
    refine wp_seq ?_
    refine wp_reg ?_
    refine st_pr F137 (PR.op (ex_asg rfl) <| PR.op (ex_asg rfl) <| PR.nil) fun q140 F141 => ?_
    refine st_end ?_
    refine then_n ?_
    obtain rfl := some_ok H
    refine wp_ret ?_
    refine then_r ?_
    refine ret_gen (rs := [.tmp 2, .tmp 3]) (vs := [.slice none 0 0, .int .i64 5]) F141 (by rfl) ⟨_, _, rfl, RV.tmp rfl, _, _, rfl, RV.tmp rfl, rfl⟩ ⟨_, rfl, ⟨(.slice none 0 0), rfl, (SL.nilSl (T := Ty.u8) s13).f1.drop⟩⟩
  · replace H := ite_f hb113 H
    refine st_gop F112 rfl rfl (look_b rfl hb113) (ex_fab Fx.fa35_0 rfl rfl) rfl rfl fun q142 F143 => ?_
    refine st_gop F143 rfl rfl (look_b rfl hb113) (ex_ld Fx.nag3 rfl (s13.blk_cell (.head _) rfl)) rfl rfl fun q144 F145 => ?_
    refine st_gop F145 rfl rfl (look_b rfl hb113) (ex_gt rfl rfl) rfl rfl fun q146 F147 => ?_
    refine st_pr F147 (PR.op (ex_pick_f (ev_b rfl hb113) rfl) <| PR.op (ex_move rfl) <| PR.nil) fun q148 F149 => ?_
    refine bool_split (decide (a0.Command > 255)) (fun hb150 => ?_) (fun hb150 => ?_)
    · replace H := ite_t hb150 H
      refine st_gskip F149 rfl rfl (look_b rfl hb150) Bool.noConfusion rfl rfl fun q151 F152 => ?_
      refine st_gskip F152 rfl rfl (look_b rfl hb150) Bool.noConfusion rfl rfl fun q153 F154 => ?_
      refine st_gskip F154 rfl rfl (look_b rfl hb150) Bool.noConfusion rfl rfl fun q155 F156 => ?_
      refine st_pr F156 (PR.op (ex_pick_t (ev_b rfl hb150) rfl) <| PR.op (ex_move rfl) <| PR.nil) fun q157 F158 => ?_
      refine st_gskip F158 rfl rfl rfl Bool.noConfusion rfl rfl fun q159 F160 => ?_
      refine st_gskip F160 rfl rfl rfl Bool.noConfusion rfl rfl fun q161 F162 => ?_
      refine st_gskip F162 rfl rfl rfl Bool.noConfusion rfl rfl fun q163 F164 => ?_
      refine st_pr F164 (PR.op (ex_pick_t rfl rfl) <| PR.nil) fun q165 F166 => ?_
      refine st_end ?_
      refine then_n ?_
      refine wp_if_t F166 rfl ?_
      refine wp_seq ?_
      refine wp_reg ?_
      refine st_pr F166 (PR.op (ex_asg rfl) <| PR.op (ex_asg rfl) <| PR.nil) fun q169 F170 => ?_
      refine st_end ?_
      refine then_n ?_
      obtain rfl := some_ok H
      refine wp_ret ?_
      refine then_r ?_
      refine ret_gen (rs := [.tmp 2, .tmp 3]) (vs := [.slice none 0 0, .int .i64 5]) F170 (by rfl) ⟨_, _, rfl, RV.tmp rfl, _, _, rfl, RV.tmp rfl, rfl⟩ ⟨_, rfl, ⟨(.slice none 0 0), rfl, (SL.nilSl (T := Ty.u8) s13).f1.drop⟩⟩
    · replace H := ite_f hb150 H
      refine st_gop F149 rfl rfl (look_b rfl hb150) (ex_fab Fx.fa35_1 rfl rfl) rfl rfl fun q171 F172 => ?_
      refine st_gop F172 rfl rfl (look_b rfl hb150) (ex_ld Fx.nag3 rfl (s13.blk_cell (.head _) rfl)) rfl rfl fun q173 F174 => ?_
      refine st_gop F174 rfl rfl (look_b rfl hb150) (ex_lt rfl rfl) rfl rfl fun q175 F176 => ?_
      refine st_pr F176 (PR.op (ex_pick_f (ev_b rfl hb150) rfl) <| PR.op (ex_move rfl) <| PR.nil) fun q177 F178 => ?_
      refine bool_split (decide (a0.Number < 0)) (fun hb179 => ?_) (fun hb179 => ?_)
      · replace H := ite_t hb179 H
        refine st_gskip F178 rfl rfl (look_b rfl hb179) Bool.noConfusion rfl rfl fun q180 F181 => ?_
        refine st_gskip F181 rfl rfl (look_b rfl hb179) Bool.noConfusion rfl rfl fun q182 F183 => ?_
        refine st_gskip F183 rfl rfl (look_b rfl hb179) Bool.noConfusion rfl rfl fun q184 F185 => ?_
        refine st_pr F185 (PR.op (ex_pick_t (ev_b rfl hb179) rfl) <| PR.nil) fun q186 F187 => ?_
        refine st_end ?_
        refine then_n ?_
        refine wp_if_t F187 rfl ?_
        refine wp_seq ?_
        refine wp_reg ?_
        refine st_pr F187 (PR.op (ex_asg rfl) <| PR.op (ex_asg rfl) <| PR.nil) fun q190 F191 => ?_
        refine st_end ?_
        refine then_n ?_
        obtain rfl := some_ok H
        refine wp_ret ?_
        refine then_r ?_
        refine ret_gen (rs := [.tmp 2, .tmp 3]) (vs := [.slice none 0 0, .int .i64 5]) F191 (by rfl) ⟨_, _, rfl, RV.tmp rfl, _, _, rfl, RV.tmp rfl, rfl⟩ ⟨_, rfl, ⟨(.slice none 0 0), rfl, (SL.nilSl (T := Ty.u8) s13).f1.drop⟩⟩
      · replace H := ite_f hb179 H
        refine st_gop F178 rfl rfl (look_b rfl hb179) (ex_fab Fx.fa35_1 rfl rfl) rfl rfl fun q192 F193 => ?_
        refine st_gop F193 rfl rfl (look_b rfl hb179) (ex_ld Fx.nag3 rfl (s13.blk_cell (.head _) rfl)) rfl rfl fun q194 F195 => ?_
        refine st_gop F195 rfl rfl (look_b rfl hb179) (ex_gt rfl rfl) rfl rfl fun q196 F197 => ?_
        refine st_pr F197 (PR.op (ex_pick_f (ev_b rfl hb179) rfl) <| PR.nil) fun q198 F199 => ?_
        refine st_end ?_
        refine then_n ?_
        refine wp_if F199 rfl (fun hb200 => ?_) (fun hb200 => ?_)
        · replace H := ite_t hb200 H
          refine wp_seq ?_
          refine wp_reg ?_
          refine st_pr F199 (PR.op (ex_asg rfl) <| PR.op (ex_asg rfl) <| PR.nil) fun q203 F204 => ?_
          refine st_end ?_
          refine then_n ?_
          obtain rfl := some_ok H
          refine wp_ret ?_
          refine then_r ?_
          refine ret_gen (rs := [.tmp 2, .tmp 3]) (vs := [.slice none 0 0, .int .i64 5]) F204 (by rfl) ⟨_, _, rfl, RV.tmp rfl, _, _, rfl, RV.tmp rfl, rfl⟩ ⟨_, rfl, ⟨(.slice none 0 0), rfl, (SL.nilSl (T := Ty.u8) s13).f1.drop⟩⟩
        · replace H := ite_f hb200 H
          refine wp_skip ?_
          refine then_n ?_
          refine wp_seq ?_
          refine wp_seq ?_
          refine wp_reg ?_
          refine st_pr F199 (PR.op (ex_fab Fx.fa35_2 rfl rfl) <| PR.op (ex_ld Fx.nag22 rfl (s13.blk_cell (.head _) rfl)) <| PR.op (ex_len rfl Try.underlying22 (formL (rdL hr0_2 s13))) <| PR.op (ex_gt rfl rfl) <| PR.nil) fun q216 F217 => ?_
          refine st_end ?_
          refine then_n ?_
          refine wp_if F217 rfl (fun hb218 => ?_) (fun hb218 => ?_)
          · replace H := ite_t hb218 H
            refine wp_seq ?_
            refine wp_reg ?_
            refine st_pr F217 (PR.op (ex_asg rfl) <| PR.op (ex_asg rfl) <| PR.nil) fun q221 F222 => ?_
            refine st_end ?_
            refine then_n ?_
            obtain rfl := some_ok H
            refine wp_ret ?_
            refine then_r ?_
            refine ret_gen (rs := [.tmp 2, .tmp 3]) (vs := [.slice none 0 0, .int .i64 4]) F222 (by rfl) ⟨_, _, rfl, RV.tmp rfl, _, _, rfl, RV.tmp rfl, rfl⟩ ⟨_, rfl, ⟨(.slice none 0 0), rfl, (SL.nilSl (T := Ty.u8) s13).f1.drop⟩⟩
          · replace H := ite_f hb218 H
            refine wp_skip ?_
            refine then_n ?_
            refine wp_seq ?_
            refine wp_reg ?_
            refine st_pr F217 (PR.op (ex_fab Fx.fa35_0 rfl rfl) <| PR.op (ex_ld Fx.nag3 rfl (s13.blk_cell (.head _) rfl)) <| PR.op (ex_cv8 rfl Try.underlying3 Try.underlying5) <| PR.nil) fun q252 F253 => ?_
            refine st_bslice (parts := [(0, .const (.int .u8 80)), (1, .tmp 29)]) Flat.u8 ([(80 : UInt8), toU8 a0.Command] : List UInt8) F253 s13 Fx.sl22 rfl (by decide) rfl rfl rfl (by simp [Value.cells]) rfl rfl rfl fun v254 w255 q256 F257 s258 => ?_
            obtain ⟨x260, hx261, H⟩ := bind_ok H
            refine st_pr F257 (PR.op (ex_fab Fx.fa35_1 rfl rfl) <| PR.op (ex_ld Fx.nag3 rfl (s258.blk_cell (.tail _ <| .head _) rfl)) <| PR.nil) fun q262 F263 => ?_
            have s271 := s258
            obtain ⟨G276, hst272, hF273, hG274, hcl275⟩ := SL.open_ (ps := [Sl Ty.u8 v254 ([(80 : UInt8), toU8 a0.Command] : List UInt8)]) (rest := [Blk g9 35 [.int .i64 a0.Command, .int .i64 a0.Number, v0_2]]) s271
            refine st_call (args := [.tmp 30, .tmp 32]) F263 Fx.fn36 rfl (provisoref24_word_c (a0 := ([(80 : UInt8), toU8 a0.Command] : List UInt8)) (a1 := a0.Number) hst272  hx261) rfl fun v264 w265 q266 hS268 F267 => ?_
            obtain ⟨_, rfl, hq270⟩ := hS268
            have s269 := hcl275 _ _ hq270
            refine st_pr F267 (PR.op (ex_asg rfl) <| PR.nil) fun q279 F280 => ?_
            refine st_end ?_
            refine then_n ?_
            refine wp_seq ?_
            refine wp_reg ?_
            refine st_pr F280 (PR.op (ex_move rfl) <| PR.op (ex_fab Fx.fa35_2 rfl rfl) <| PR.op (ex_ld Fx.nag22 rfl (s269.blk_cell (.tail _ <| .head _) rfl)) <| PR.op (ex_len rfl Try.underlying22 (formL (rdL hr0_2 s269))) <| PR.op (ex_cv8 rfl Try.underlying3 Try.underlying5) <| PR.nil) fun q299 F300 => ?_
            refine st_bslice (parts := [(0, .tmp 38)]) Flat.u8 ([toU8 (a0.Data.length : Int)] : List UInt8) F300 s269 Fx.sl22 rfl (by decide) rfl rfl rfl (by simp [Value.cells]) rfl rfl rfl fun v301 w302 q303 F304 s305 => ?_
            obtain ⟨x307, hx308, H⟩ := bind_ok H
            have s314 := s305.f1
            obtain ⟨_, hr_⟩ := (s314.own_rd (.tail _ <| .head _))
            refine st_append_rd Flat.u8 F304 s314 Fx.sl22 rfl rfl rfl rfl hr_ rfl rfl hx308 rfl fun v309 w310 q311 F312 s313 => ?_
            have s313' := s313.f1.drop
            refine st_pr F312 (PR.op (ex_asg rfl) <| PR.nil) fun q315 F316 => ?_
            refine st_end ?_
            refine then_n ?_
            refine wp_seq ?_
            refine wp_reg ?_
            obtain ⟨x340, hx341, H⟩ := bind_ok H
            refine st_pr F316 (PR.op (ex_move rfl) <| PR.op (ex_fab Fx.fa35_2 rfl rfl) <| PR.op (ex_ld Fx.nag22 rfl (s313'.blk_cell (.tail _ <| .head _) rfl)) <| PR.nil) fun q342 F343 => ?_
            have s349 := s313'
            obtain ⟨_, hr_⟩ := (rdL hr0_2 s349)
            refine st_append_rd Flat.u8 F343 s349 Fx.sl22 rfl rfl rfl rfl hr_ rfl rfl hx341 rfl fun v344 w345 q346 F347 s348 => ?_
            obtain ⟨x350, hx351, H⟩ := bind_ok H
            refine st_call (args := [.tmp 44]) F347 Fx.fn37 rfl (provisoref16_Summed_c (a0 := x340)  (s348.rd0 (.head _)) hx351) rfl fun v352 w353 q354 hS356 F355 => ?_
            obtain ⟨_, rfl, hq358⟩ := hS356
            have s357 := s348.add hq358
            refine st_pr F355 (PR.op (ex_asg rfl) <| PR.op (ex_asg rfl) <| PR.nil) fun q361 F362 => ?_
            refine st_end ?_
            refine then_n ?_
            obtain rfl := some_ok H
            refine wp_ret ?_
            refine ret_gen (rs := [.tmp 2, .tmp 3]) (vs := [v352, .int .i64 0]) F362 (by rfl) ⟨_, _, rfl, RV.tmp rfl, _, _, rfl, RV.tmp rfl, rfl⟩ ⟨_, rfl, ⟨v352, rfl, s357.f1.drop.f1.drop⟩⟩
end Go.Proofs.Ytpcdphfneidalaa
