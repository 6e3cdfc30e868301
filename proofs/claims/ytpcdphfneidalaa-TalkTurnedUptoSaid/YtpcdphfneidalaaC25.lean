/- The walk of proviso/provisolaw24.may. -/
import Derived.Test.YtpcdphfneidalaaFx
import Derived.Test.YtpcdphfneidalaaDf
set_option linter.unusedVariables false
set_option linter.unusedSimpArgs false
namespace Go.Proofs.Ytpcdphfneidalaa
open Go Go.RowKit Go.Pv
theorem provisolaw24_may_c {w : World} {v0_2 : Value} {a0 : S_api_Request} {r : Bool} (hr0_2 : Rd Ty.u8 w [] v0_2 a0.Data) (H : provisolaw24_may a0 = some r) :
    Calls Try.prog 25 #[.agg ⟨[.int .i64 a0.Command, .int .i64 a0.Number, v0_2]⟩] w (Ret fun u_ w_ => u_ = .bool r ∧ SL w [] w_ []) := by
  have s0 : SL w [] w [] := SL.init0 w
  refine call_enter Try.func25 rfl Try.ntmps25 (Nat.le_of_ble_eq_true rfl) (args := [.agg ⟨[.int .i64 a0.Command, .int .i64 a0.Number, v0_2]⟩]) fun q0 F0 => ?_
  unfold provisolaw24_may at H
  refine wp_seq ?_
  refine wp_reg ?_
  refine st_box F0 s0 rfl rfl rfl fun g9 w10 q11 F12 s13 => ?_
  refine st_pr F12 (PR.op (ex_asg rfl) <| PR.nil) fun q15 F16 => ?_
  refine st_end ?_
  refine then_n ?_
  refine wp_seq ?_
  refine wp_reg ?_
  refine st_pr F16 (PR.op (ex_fab Fx.fa35_0 rfl rfl) <| PR.op (ex_ld Fx.nag3 rfl (s13.blk_cell (.head _) rfl)) <| PR.op (ex_ge rfl rfl) <| PR.op (ex_move rfl) <| PR.nil) fun q145 F146 => ?_
  refine bool_split (decide (a0.Command ≥ 0)) (fun hb147 => ?_) (fun hb147 => ?_)
  · replace H := ite_t hb147 H
    refine st_gop F146 rfl rfl (look_b rfl hb147) (ex_fab Fx.fa35_0 rfl rfl) rfl rfl fun q148 F149 => ?_
    refine st_gop F149 rfl rfl (look_b rfl hb147) (ex_ld Fx.nag3 rfl (s13.blk_cell (.head _) rfl)) rfl rfl fun q150 F151 => ?_
    refine st_gop F151 rfl rfl (look_b rfl hb147) (ex_le rfl rfl) rfl rfl fun q152 F153 => ?_
    refine st_pr F153 (PR.op (ex_pick_t (ev_b rfl hb147) rfl) <| PR.op (ex_move rfl) <| PR.nil) fun q154 F155 => ?_
    refine bool_split (decide (a0.Command ≤ 255)) (fun hb156 => ?_) (fun hb156 => ?_)
    · replace H := ite_t hb156 H
      refine st_gop F155 rfl rfl (look_b rfl hb156) (ex_fab Fx.fa35_1 rfl rfl) rfl rfl fun q157 F158 => ?_
      refine st_gop F158 rfl rfl (look_b rfl hb156) (ex_ld Fx.nag3 rfl (s13.blk_cell (.head _) rfl)) rfl rfl fun q159 F160 => ?_
      refine st_gop F160 rfl rfl (look_b rfl hb156) (ex_ge rfl rfl) rfl rfl fun q161 F162 => ?_
      refine st_pr F162 (PR.op (ex_pick_t (ev_b rfl hb156) rfl) <| PR.op (ex_move rfl) <| PR.nil) fun q163 F164 => ?_
      refine bool_split (decide (a0.Number ≥ 0)) (fun hb165 => ?_) (fun hb165 => ?_)
      · replace H := ite_t hb165 H
        refine st_gop F164 rfl rfl (look_b rfl hb165) (ex_fab Fx.fa35_1 rfl rfl) rfl rfl fun q166 F167 => ?_
        refine st_gop F167 rfl rfl (look_b rfl hb165) (ex_ld Fx.nag3 rfl (s13.blk_cell (.head _) rfl)) rfl rfl fun q168 F169 => ?_
        refine st_gop F169 rfl rfl (look_b rfl hb165) (ex_le rfl rfl) rfl rfl fun q170 F171 => ?_
        refine st_pr F171 (PR.op (ex_pick_t (ev_b rfl hb165) rfl) <| PR.op (ex_move rfl) <| PR.nil) fun q172 F173 => ?_
        refine bool_split (decide (a0.Number ≤ 65535)) (fun hb174 => ?_) (fun hb174 => ?_)
        · replace H := ite_t hb174 H
          refine st_gop F173 rfl rfl (look_b rfl hb174) (ex_fab Fx.fa35_2 rfl rfl) rfl rfl fun q175 F176 => ?_
          refine st_gop F176 rfl rfl (look_b rfl hb174) (ex_ld Fx.nag22 rfl (s13.blk_cell (.head _) rfl)) rfl rfl fun q177 F178 => ?_
          refine st_gop F178 rfl rfl (look_b rfl hb174) (ex_len rfl Try.underlying22 (formL (rdL hr0_2 s13))) rfl rfl fun q179 F180 => ?_
          refine st_gop F180 rfl rfl (look_b rfl hb174) (ex_le rfl rfl) rfl rfl fun q181 F182 => ?_
          refine st_pr F182 (PR.op (ex_pick_t (ev_b rfl hb174) rfl) <| PR.op (ex_asg rfl) <| PR.nil) fun q183 F184 => ?_
          refine st_end ?_
          refine then_n ?_
          obtain rfl := some_ok H
          refine wp_ret ?_
          refine ret_gen (rs := [.tmp 2]) (vs := [.bool (decide ((a0.Data.length : Int) ≤ 255))]) F184 (by rfl) ⟨_, _, rfl, RV.tmp rfl, rfl⟩ ⟨_, rfl, ⟨rfl, s13.drop⟩⟩
        · replace H := ite_f hb174 H
          refine st_gskip F173 rfl rfl (look_b rfl hb174) Bool.noConfusion rfl rfl fun q185 F186 => ?_
          refine st_gskip F186 rfl rfl (look_b rfl hb174) Bool.noConfusion rfl rfl fun q187 F188 => ?_
          refine st_gskip F188 rfl rfl (look_b rfl hb174) Bool.noConfusion rfl rfl fun q189 F190 => ?_
          refine st_gskip F190 rfl rfl (look_b rfl hb174) Bool.noConfusion rfl rfl fun q191 F192 => ?_
          refine st_pr F192 (PR.op (ex_pick_f (ev_b rfl hb174) rfl) <| PR.op (ex_asg rfl) <| PR.nil) fun q193 F194 => ?_
          refine st_end ?_
          refine then_n ?_
          obtain rfl := some_ok H
          refine wp_ret ?_
          refine ret_gen (rs := [.tmp 2]) (vs := [.bool false]) F194 (by rfl) ⟨_, _, rfl, RV.tmp rfl, rfl⟩ ⟨_, rfl, ⟨rfl, s13.drop⟩⟩
      · replace H := ite_f hb165 H
        refine st_gskip F164 rfl rfl (look_b rfl hb165) Bool.noConfusion rfl rfl fun q195 F196 => ?_
        refine st_gskip F196 rfl rfl (look_b rfl hb165) Bool.noConfusion rfl rfl fun q197 F198 => ?_
        refine st_gskip F198 rfl rfl (look_b rfl hb165) Bool.noConfusion rfl rfl fun q199 F200 => ?_
        refine st_pr F200 (PR.op (ex_pick_f (ev_b rfl hb165) rfl) <| PR.op (ex_move rfl) <| PR.nil) fun q201 F202 => ?_
        refine st_gskip F202 rfl rfl rfl Bool.noConfusion rfl rfl fun q203 F204 => ?_
        refine st_gskip F204 rfl rfl rfl Bool.noConfusion rfl rfl fun q205 F206 => ?_
        refine st_gskip F206 rfl rfl rfl Bool.noConfusion rfl rfl fun q207 F208 => ?_
        refine st_gskip F208 rfl rfl rfl Bool.noConfusion rfl rfl fun q209 F210 => ?_
        refine st_pr F210 (PR.op (ex_pick_f rfl rfl) <| PR.op (ex_asg rfl) <| PR.nil) fun q211 F212 => ?_
        refine st_end ?_
        refine then_n ?_
        obtain rfl := some_ok H
        refine wp_ret ?_
        refine ret_gen (rs := [.tmp 2]) (vs := [.bool false]) F212 (by rfl) ⟨_, _, rfl, RV.tmp rfl, rfl⟩ ⟨_, rfl, ⟨rfl, s13.drop⟩⟩
    · replace H := ite_f hb156 H
      refine st_gskip F155 rfl rfl (look_b rfl hb156) Bool.noConfusion rfl rfl fun q213 F214 => ?_
      refine st_gskip F214 rfl rfl (look_b rfl hb156) Bool.noConfusion rfl rfl fun q215 F216 => ?_
      refine st_gskip F216 rfl rfl (look_b rfl hb156) Bool.noConfusion rfl rfl fun q217 F218 => ?_
      refine st_pr F218 (PR.op (ex_pick_f (ev_b rfl hb156) rfl) <| PR.op (ex_move rfl) <| PR.nil) fun q219 F220 => ?_
      refine st_gskip F220 rfl rfl rfl Bool.noConfusion rfl rfl fun q221 F222 => ?_
      refine st_gskip F222 rfl rfl rfl Bool.noConfusion rfl rfl fun q223 F224 => ?_
      refine st_gskip F224 rfl rfl rfl Bool.noConfusion rfl rfl fun q225 F226 => ?_
      refine st_pr F226 (PR.op (ex_pick_f rfl rfl) <| PR.op (ex_move rfl) <| PR.nil) fun q227 F228 => ?_
      refine st_gskip F228 rfl rfl rfl Bool.noConfusion rfl rfl fun q229 F230 => ?_
      refine st_gskip F230 rfl rfl rfl Bool.noConfusion rfl rfl fun q231 F232 => ?_
      refine st_gskip F232 rfl rfl rfl Bool.noConfusion rfl rfl fun q233 F234 => ?_
      refine st_gskip F234 rfl rfl rfl Bool.noConfusion rfl rfl fun q235 F236 => ?_
      refine st_pr F236 (PR.op (ex_pick_f rfl rfl) <| PR.op (ex_asg rfl) <| PR.nil) fun q237 F238 => ?_
      refine st_end ?_
      refine then_n ?_
      obtain rfl := some_ok H
      refine wp_ret ?_
      refine ret_gen (rs := [.tmp 2]) (vs := [.bool false]) F238 (by rfl) ⟨_, _, rfl, RV.tmp rfl, rfl⟩ ⟨_, rfl, ⟨rfl, s13.drop⟩⟩
  · replace H := ite_f hb147 H
    refine st_gskip F146 rfl rfl (look_b rfl hb147) Bool.noConfusion rfl rfl fun q239 F240 => ?_
    refine st_gskip F240 rfl rfl (look_b rfl hb147) Bool.noConfusion rfl rfl fun q241 F242 => ?_
    refine st_gskip F242 rfl rfl (look_b rfl hb147) Bool.noConfusion rfl rfl fun q243 F244 => ?_
    refine st_pr F244 (PR.op (ex_pick_f (ev_b rfl hb147) rfl) <| PR.op (ex_move rfl) <| PR.nil) fun q245 F246 => ?_
    refine st_gskip F246 rfl rfl rfl Bool.noConfusion rfl rfl fun q247 F248 => ?_
    refine st_gskip F248 rfl rfl rfl Bool.noConfusion rfl rfl fun q249 F250 => ?_
    refine st_gskip F250 rfl rfl rfl Bool.noConfusion rfl rfl fun q251 F252 => ?_
    refine st_pr F252 (PR.op (ex_pick_f rfl rfl) <| PR.op (ex_move rfl) <| PR.nil) fun q253 F254 => ?_
    refine st_gskip F254 rfl rfl rfl Bool.noConfusion rfl rfl fun q255 F256 => ?_
    refine st_gskip F256 rfl rfl rfl Bool.noConfusion rfl rfl fun q257 F258 => ?_
    refine st_gskip F258 rfl rfl rfl Bool.noConfusion rfl rfl fun q259 F260 => ?_
    refine st_pr F260 (PR.op (ex_pick_f rfl rfl) <| PR.op (ex_move rfl) <| PR.nil) fun q261 F262 => ?_
    refine st_gskip F262 rfl rfl rfl Bool.noConfusion rfl rfl fun q263 F264 => ?_
    refine st_gskip F264 rfl rfl rfl Bool.noConfusion rfl rfl fun q265 F266 => ?_
    refine st_gskip F266 rfl rfl rfl Bool.noConfusion rfl rfl fun q267 F268 => ?_
    refine st_gskip F268 rfl rfl rfl Bool.noConfusion rfl rfl fun q269 F270 => ?_
    refine st_pr F270 (PR.op (ex_pick_f rfl rfl) <| PR.op (ex_asg rfl) <| PR.nil) fun q271 F272 => ?_
    refine st_end ?_
    refine then_n ?_
    obtain rfl := some_ok H
    refine wp_ret ?_
    refine ret_gen (rs := [.tmp 2]) (vs := [.bool false]) F272 (by rfl) ⟨_, _, rfl, RV.tmp rfl, rfl⟩ ⟨_, rfl, ⟨rfl, s13.drop⟩⟩
end Go.Proofs.Ytpcdphfneidalaa
