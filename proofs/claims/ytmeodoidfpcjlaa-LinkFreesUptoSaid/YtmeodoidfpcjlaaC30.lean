/- The walk of proviso/provisoplain.SameFunc. -/
import Derived.Test.YtmeodoidfpcjlaaFx
import Derived.Test.YtmeodoidfpcjlaaDf
import Derived.Test.YtmeodoidfpcjlaaC32
import Derived.Test.YtmeodoidfpcjlaaC40
set_option linter.unusedVariables false
set_option linter.unusedSimpArgs false
namespace Go.Proofs.Ytmeodoidfpcjlaa
open Go Go.RowKit Go.Pv
theorem provisoplain_SameFunc_c {w : World} {v0_1 v0_4 v1_1 v1_4 : Value} {a0 : S_api_Func} {a1 : S_api_Func} {r : Bool} (hr0_1 : Rd Ty.u8 w [] v0_1 a0.Sig.Params) (hr0_4 : Rd Ty.u8 w [] v0_4 a0.Code) (hr1_1 : Rd Ty.u8 w [] v1_1 a1.Sig.Params) (hr1_4 : Rd Ty.u8 w [] v1_4 a1.Code) (H : provisoplain_SameFunc a0 a1 = some r) :
    Calls Try.prog 30 #[.agg ⟨[.string ⟨⟨a0.Name⟩⟩, v0_1, .int .u8 (a0.Sig.Result.toNat : Int), .int .i64 a0.Locals, v0_4]⟩, .agg ⟨[.string ⟨⟨a1.Name⟩⟩, v1_1, .int .u8 (a1.Sig.Result.toNat : Int), .int .i64 a1.Locals, v1_4]⟩] w (Ret fun u_ w_ => u_ = .bool r ∧ SL w [] w_ []) := by
  have s0 : SL w [] w [] := SL.init0 w
  refine call_enter Try.func30 rfl Try.ntmps30 (Nat.le_of_ble_eq_true rfl) (args := [.agg ⟨[.string ⟨⟨a0.Name⟩⟩, v0_1, .int .u8 (a0.Sig.Result.toNat : Int), .int .i64 a0.Locals, v0_4]⟩, .agg ⟨[.string ⟨⟨a1.Name⟩⟩, v1_1, .int .u8 (a1.Sig.Result.toNat : Int), .int .i64 a1.Locals, v1_4]⟩]) fun q0 F0 => ?_
  unfold provisoplain_SameFunc at H
  refine wp_seq ?_
  refine wp_reg ?_
  refine st_box F0 s0 rfl rfl rfl fun g15 w16 q17 F18 s19 => ?_
  refine st_box F18 s19 rfl rfl rfl fun g21 w22 q23 F24 s25 => ?_
  refine st_pr F24 (PR.op (ex_asg rfl) <| PR.nil) fun q27 F28 => ?_
  refine st_end ?_
  refine then_n ?_
  refine wp_seq ?_
  refine wp_reg ?_
  refine st_pr F28 (PR.op (ex_fab Fx.fa56_0 rfl rfl) <| PR.op (ex_ld Fx.nag9 rfl (s25.blk_cell (.tail _ <| .head _) rfl)) <| PR.op (ex_fab Fx.fa56_0 rfl rfl) <| PR.op (ex_ld Fx.nag9 rfl (s25.blk_cell (.head _) rfl)) <| PR.op (ex_seq rfl rfl) <| PR.op (ex_move rfl) <| PR.nil) fun q156 F157 => ?_
  refine bool_split (a0.Name == a1.Name) (fun hb158 => ?_) (fun hb158 => ?_)
  · replace H := ite_t hb158 H
    refine st_gop F157 rfl rfl (look_b rfl hb158) (ex_fab Fx.fa56_1 rfl rfl) rfl rfl fun q159 F160 => ?_
    refine st_gop F160 rfl rfl (look_b rfl hb158) (ex_ldagg Fx.agg54 rfl (s25.blk_cells (.tail _ <| .head _) (o := 1) (ds := [v0_1, .int .u8 (a0.Sig.Result.toNat : Int)]) (subcells _ rfl)) rfl) rfl rfl fun q161 F162 => ?_
    refine st_gop F162 rfl rfl (look_b rfl hb158) (ex_fab Fx.fa56_1 rfl rfl) rfl rfl fun q163 F164 => ?_
    refine st_gop F164 rfl rfl (look_b rfl hb158) (ex_ldagg Fx.agg54 rfl (s25.blk_cells (.head _) (o := 1) (ds := [v1_1, .int .u8 (a1.Sig.Result.toNat : Int)]) (subcells _ rfl)) rfl) rfl rfl fun q165 F166 => ?_
    obtain ⟨x167, hx168, H⟩ := bind_ok H
    refine st_ungd F166 rfl (look_b rfl hb158) ?_
    refine st_call (args := [.tmp 12, .tmp 14]) F166 Fx.fn40 rfl (provisoplain_SameSig_c (a0 := (⟨a0.Sig.Params, a0.Sig.Result⟩ : S_api_Sig)) (a1 := (⟨a1.Sig.Params, a1.Sig.Result⟩ : S_api_Sig))  (hr0_1.pass0 s25) (hr1_1.pass0 s25) hx168) rfl fun v169 w170 q171 hS173 F172 => ?_
    obtain ⟨rfl, hq175⟩ := hS173
    have s174 := s25.add hq175
    refine st_pr F172 (PR.op (ex_pick_t (ev_b rfl hb158) rfl) <| PR.op (ex_move rfl) <| PR.nil) fun q176 F177 => ?_
    refine bool_split x167 (fun hb178 => ?_) (fun hb178 => ?_)
    · replace H := ite_t hb178 H
      refine st_gop F177 rfl rfl (look_b rfl hb178) (ex_fab Fx.fa56_2 rfl rfl) rfl rfl fun q179 F180 => ?_
      refine st_gop F180 rfl rfl (look_b rfl hb178) (ex_ld Fx.nag3 rfl (s174.blk_cell (.tail _ <| .head _) rfl)) rfl rfl fun q181 F182 => ?_
      refine st_gop F182 rfl rfl (look_b rfl hb178) (ex_fab Fx.fa56_2 rfl rfl) rfl rfl fun q183 F184 => ?_
      refine st_gop F184 rfl rfl (look_b rfl hb178) (ex_ld Fx.nag3 rfl (s174.blk_cell (.head _) rfl)) rfl rfl fun q185 F186 => ?_
      refine st_gop F186 rfl rfl (look_b rfl hb178) (ex_eq rfl rfl) rfl rfl fun q187 F188 => ?_
      refine st_pr F188 (PR.op (ex_pick_t (ev_b rfl hb178) rfl) <| PR.op (ex_move rfl) <| PR.nil) fun q189 F190 => ?_
      refine bool_split (a0.Locals == a1.Locals) (fun hb191 => ?_) (fun hb191 => ?_)
      · replace H := ite_t hb191 H
        refine st_gop F190 rfl rfl (look_b rfl hb191) (ex_fab Fx.fa56_3 rfl rfl) rfl rfl fun q192 F193 => ?_
        refine st_gop F193 rfl rfl (look_b rfl hb191) (ex_ld Fx.nag22 rfl (s174.blk_cell (.tail _ <| .head _) rfl)) rfl rfl fun q194 F195 => ?_
        refine st_gop F195 rfl rfl (look_b rfl hb191) (ex_fab Fx.fa56_3 rfl rfl) rfl rfl fun q196 F197 => ?_
        refine st_gop F197 rfl rfl (look_b rfl hb191) (ex_ld Fx.nag22 rfl (s174.blk_cell (.head _) rfl)) rfl rfl fun q198 F199 => ?_
        obtain ⟨x200, hx201, H⟩ := bind_ok H
        refine st_ungd F199 rfl (look_b rfl hb191) ?_
        refine st_call (args := [.tmp 26, .tmp 28]) F199 Fx.fn32 rfl (slices_Equal_byte_byte_c (a0 := a0.Code) (a1 := a1.Code)  (hr0_4.pass0 s174) (hr1_4.pass0 s174) hx201) rfl fun v202 w203 q204 hS206 F205 => ?_
        obtain ⟨rfl, hq208⟩ := hS206
        have s207 := s174.add hq208
        refine st_pr F205 (PR.op (ex_pick_t (ev_b rfl hb191) rfl) <| PR.op (ex_asg rfl) <| PR.nil) fun q209 F210 => ?_
        refine st_end ?_
        refine then_n ?_
        obtain rfl := some_ok H
        refine wp_ret ?_
        refine ret_gen (rs := [.tmp 4]) (vs := [.bool x200]) F210 (by rfl) ⟨_, _, rfl, RV.tmp rfl, rfl⟩ ⟨_, rfl, ⟨rfl, s207.drop.drop⟩⟩
      · replace H := ite_f hb191 H
        refine st_gskip F190 rfl rfl (look_b rfl hb191) Bool.noConfusion rfl rfl fun q211 F212 => ?_
        refine st_gskip F212 rfl rfl (look_b rfl hb191) Bool.noConfusion rfl rfl fun q213 F214 => ?_
        refine st_gskip F214 rfl rfl (look_b rfl hb191) Bool.noConfusion rfl rfl fun q215 F216 => ?_
        refine st_gskip F216 rfl rfl (look_b rfl hb191) Bool.noConfusion rfl rfl fun q217 F218 => ?_
        refine st_gskip F218 rfl rfl (look_b rfl hb191) Bool.noConfusion rfl rfl fun q219 F220 => ?_
        refine st_pr F220 (PR.op (ex_pick_f (ev_b rfl hb191) rfl) <| PR.op (ex_asg rfl) <| PR.nil) fun q221 F222 => ?_
        refine st_end ?_
        refine then_n ?_
        obtain rfl := some_ok H
        refine wp_ret ?_
        refine ret_gen (rs := [.tmp 4]) (vs := [.bool false]) F222 (by rfl) ⟨_, _, rfl, RV.tmp rfl, rfl⟩ ⟨_, rfl, ⟨rfl, s174.drop.drop⟩⟩
    · replace H := ite_f hb178 H
      refine st_gskip F177 rfl rfl (look_b rfl hb178) Bool.noConfusion rfl rfl fun q223 F224 => ?_
      refine st_gskip F224 rfl rfl (look_b rfl hb178) Bool.noConfusion rfl rfl fun q225 F226 => ?_
      refine st_gskip F226 rfl rfl (look_b rfl hb178) Bool.noConfusion rfl rfl fun q227 F228 => ?_
      refine st_gskip F228 rfl rfl (look_b rfl hb178) Bool.noConfusion rfl rfl fun q229 F230 => ?_
      refine st_gskip F230 rfl rfl (look_b rfl hb178) Bool.noConfusion rfl rfl fun q231 F232 => ?_
      refine st_pr F232 (PR.op (ex_pick_f (ev_b rfl hb178) rfl) <| PR.op (ex_move rfl) <| PR.nil) fun q233 F234 => ?_
      refine st_gskip F234 rfl rfl rfl Bool.noConfusion rfl rfl fun q235 F236 => ?_
      refine st_gskip F236 rfl rfl rfl Bool.noConfusion rfl rfl fun q237 F238 => ?_
      refine st_gskip F238 rfl rfl rfl Bool.noConfusion rfl rfl fun q239 F240 => ?_
      refine st_gskip F240 rfl rfl rfl Bool.noConfusion rfl rfl fun q241 F242 => ?_
      refine st_gskip F242 rfl rfl rfl Bool.noConfusion rfl rfl fun q243 F244 => ?_
      refine st_pr F244 (PR.op (ex_pick_f rfl rfl) <| PR.op (ex_asg rfl) <| PR.nil) fun q245 F246 => ?_
      refine st_end ?_
      refine then_n ?_
      obtain rfl := some_ok H
      refine wp_ret ?_
      refine ret_gen (rs := [.tmp 4]) (vs := [.bool false]) F246 (by rfl) ⟨_, _, rfl, RV.tmp rfl, rfl⟩ ⟨_, rfl, ⟨rfl, s174.drop.drop⟩⟩
  · replace H := ite_f hb158 H
    refine st_gskip F157 rfl rfl (look_b rfl hb158) Bool.noConfusion rfl rfl fun q247 F248 => ?_
    refine st_gskip F248 rfl rfl (look_b rfl hb158) Bool.noConfusion rfl rfl fun q249 F250 => ?_
    refine st_gskip F250 rfl rfl (look_b rfl hb158) Bool.noConfusion rfl rfl fun q251 F252 => ?_
    refine st_gskip F252 rfl rfl (look_b rfl hb158) Bool.noConfusion rfl rfl fun q253 F254 => ?_
    refine st_gskip F254 rfl rfl (look_b rfl hb158) Bool.noConfusion rfl rfl fun q255 F256 => ?_
    refine st_pr F256 (PR.op (ex_pick_f (ev_b rfl hb158) rfl) <| PR.op (ex_move rfl) <| PR.nil) fun q257 F258 => ?_
    refine st_gskip F258 rfl rfl rfl Bool.noConfusion rfl rfl fun q259 F260 => ?_
    refine st_gskip F260 rfl rfl rfl Bool.noConfusion rfl rfl fun q261 F262 => ?_
    refine st_gskip F262 rfl rfl rfl Bool.noConfusion rfl rfl fun q263 F264 => ?_
    refine st_gskip F264 rfl rfl rfl Bool.noConfusion rfl rfl fun q265 F266 => ?_
    refine st_gskip F266 rfl rfl rfl Bool.noConfusion rfl rfl fun q267 F268 => ?_
    refine st_pr F268 (PR.op (ex_pick_f rfl rfl) <| PR.op (ex_move rfl) <| PR.nil) fun q269 F270 => ?_
    refine st_gskip F270 rfl rfl rfl Bool.noConfusion rfl rfl fun q271 F272 => ?_
    refine st_gskip F272 rfl rfl rfl Bool.noConfusion rfl rfl fun q273 F274 => ?_
    refine st_gskip F274 rfl rfl rfl Bool.noConfusion rfl rfl fun q275 F276 => ?_
    refine st_gskip F276 rfl rfl rfl Bool.noConfusion rfl rfl fun q277 F278 => ?_
    refine st_gskip F278 rfl rfl rfl Bool.noConfusion rfl rfl fun q279 F280 => ?_
    refine st_pr F280 (PR.op (ex_pick_f rfl rfl) <| PR.op (ex_asg rfl) <| PR.nil) fun q281 F282 => ?_
    refine st_end ?_
    refine then_n ?_
    obtain rfl := some_ok H
    refine wp_ret ?_
    refine ret_gen (rs := [.tmp 4]) (vs := [.bool false]) F282 (by rfl) ⟨_, _, rfl, RV.tmp rfl, rfl⟩ ⟨_, rfl, ⟨rfl, s25.drop.drop⟩⟩
end Go.Proofs.Ytmeodoidfpcjlaa
