/- The walk of proviso/provisolaw24.TalkNone. -/
import Derived.Test.YtfepcangbajjjacGreatFx
import Derived.Test.YtfepcangbajjjacGreatDf
import Derived.Test.YtfepcangbajjjacGreatC4n
import Derived.Test.YtfepcangbajjjacGreatC5np
import Derived.Test.YtfepcangbajjjacGreatC5zp
import Derived.Test.YtfepcangbajjjacGreatC6n
import Derived.Test.YtfepcangbajjjacGreatC6z
set_option linter.unusedVariables false
set_option linter.unusedSimpArgs false
namespace Go.Proofs.YtfepcangbajjjacGreat
open Go Go.RowKit Go.Pv
theorem provisolaw24_TalkNone_c {w : World} {v0 : Value} {a0 : List UInt8} {r : Bool} (hr0 : Rd Ty.u8 w [] v0 a0) (H : provisolaw24_TalkNone a0 = some r) :
    Calls Tryz.prog 3 #[v0] w (Ret fun u_ w_ => u_ = .bool r ∧ SL w [] w_ []) := by
  have s0 : SL w [] w [] := SL.init0 w
  refine call_enter Tryz.func3 rfl Tryz.ntmps3 (Nat.le_of_ble_eq_true rfl) (args := [v0]) fun q0 F0 => ?_
  unfold provisolaw24_TalkNone at H
  refine wp_seq ?_
  refine wp_reg ?_
  refine st_pr F0 (PR.op (ex_asg rfl) <| PR.nil) fun q3 F4 => ?_
  refine st_end ?_
  refine then_n ?_
  refine wp_seq ?_
  refine wp_reg ?_
  obtain ⟨x16, hx17, H⟩ := bind_ok H
  refine st_call (args := [.const (.pointer none)]) F4 Fx.fn4 rfl (talk_New_n_c    hx17) rfl fun v18 w19 q20 hS22 F21 => ?_
  obtain ⟨rfl, hq24⟩ := hS22
  have s23 := s0.add hq24
  refine st_pr F21 (PR.op (ex_move rfl) <| PR.op (ex_extract (v := .pointer none) rfl rfl) <| PR.op (ex_extract (v := .int .i64 x16.2) rfl rfl) <| PR.op (ex_asg rfl) <| PR.op (ex_asg rfl) <| PR.nil) fun q25 F26 => ?_
  refine st_end ?_
  refine then_n ?_
  refine wp_seq ?_
  refine wp_seq ?_
  refine wp_reg ?_
  refine st_pr F26 (PR.op (ex_move rfl) <| PR.op (ex_ptr_nnn rfl rfl Tryz.underlying23) <| PR.op (ex_move rfl) <| PR.nil) fun q40 F41 => ?_
  refine st_gop F41 rfl rfl rfl (ex_move rfl) rfl rfl fun q42 F43 => ?_
  refine st_gop F43 rfl rfl rfl (ex_ne rfl rfl) rfl rfl fun q44 F45 => ?_
  refine st_pr F45 (PR.op (ex_pick_f rfl rfl) <| PR.nil) fun q46 F47 => ?_
  refine st_end ?_
  refine then_n ?_
  refine wp_if F47 rfl (fun hb48 => ?_) (fun hb48 => ?_)
  · replace H := ite_t hb48 H
    refine wp_seq ?_
    refine wp_reg ?_
    refine st_pr F47 (PR.op (ex_asg rfl) <| PR.nil) fun q51 F52 => ?_
    refine st_end ?_
    refine then_n ?_
    obtain rfl := some_ok H
    refine wp_ret ?_
    refine then_r ?_
    refine ret_gen (rs := [.tmp 2]) (vs := [.bool false]) F52 (by rfl) ⟨_, _, rfl, RV.tmp rfl, rfl⟩ ⟨_, rfl, ⟨rfl, s23⟩⟩
  · replace H := ite_f hb48 H
    refine wp_skip ?_
    refine then_n ?_
    refine wp_seq ?_
    refine wp_reg ?_
    refine st_pr F47 (PR.op (ex_asg rfl) <| PR.nil) fun q55 F56 => ?_
    refine st_end ?_
    refine then_n ?_
    refine wp_seq ?_
    refine wp_reg ?_
    refine st_alloc F56 s23 Fx.zero31 rfl rfl fun g63 w64 q65 F66 s67 => ?_
    refine st_end ?_
    refine then_n ?_
    refine wp_seq ?_
    refine wp_reg ?_
    obtain ⟨x192, hx193, H⟩ := bind_ok H
    refine st_pr F66 (PR.op (ex_move rfl) <| PR.op (ex_move rfl) <| PR.nil) fun q194 F195 => ?_
    refine st_call (args := [.tmp 17, .tmp 18]) F195 Fx.fn5 rfl (talk_Session_Handle_np_c (a1 := a0)  (hr0.pass0 s67) hx193) rfl fun v196 w197 q198 hS200 F199 => ?_
    obtain ⟨_, rfl, hq202⟩ := hS200
    have s201 := s67.add hq202
    refine st_pr F199 (PR.op (ex_len rfl Tryz.underlying22 (formL (s201.own_rd (.head _)))) <| PR.op (ex_eq rfl rfl) <| PR.op (ex_move rfl) <| PR.nil) fun q205 F206 => ?_
    refine bool_split ((x192.length : Int) == 0) (fun hb207 => ?_) (fun hb207 => ?_)
    · replace H := ite_t hb207 H
      refine st_gop F206 rfl rfl (look_b rfl hb207) (ex_move rfl) rfl rfl fun q208 F209 => ?_
      obtain ⟨x210, hx211, H⟩ := bind_ok H
      refine st_ungd F209 rfl (look_b rfl hb207) ?_
      refine st_call (args := [.tmp 23]) F209 Fx.fn6 rfl (talk_Session_Waits_n_c    hx211) rfl fun v212 w213 q214 hS216 F215 => ?_
      obtain ⟨rfl, hq218⟩ := hS216
      have s217 := s201.add hq218
      refine st_gop F215 rfl rfl (look_b rfl hb207) (ex_eq rfl rfl) rfl rfl fun q219 F220 => ?_
      refine st_pr F220 (PR.op (ex_pick_t (ev_b rfl hb207) rfl) <| PR.op (ex_move rfl) <| PR.nil) fun q221 F222 => ?_
      refine bool_split (x210 == 0) (fun hb223 => ?_) (fun hb223 => ?_)
      · replace H := ite_t hb223 H
        refine st_gop F222 rfl rfl (look_b rfl hb223) (ex_move rfl) rfl rfl fun q224 F225 => ?_
        obtain ⟨x226, hx227, H⟩ := bind_ok H
        refine st_ungd F225 rfl (look_b rfl hb223) ?_
        have s235 := s217.f1
        obtain ⟨G240, hst236, hF237, hG238, hcl239⟩ := SL.open_ (ps := [Blk g63 31 [.pointer none, .int .i64 0, .slice none 0 0, .slice none 0 0, .map none]]) (rest := [Sl Ty.u8 v196 x192]) s235
        refine st_call (args := [.tmp 6, .tmp 28]) F225 Fx.fn5 rfl (talk_Session_Handle_zp_c (a1 := a0) hst236 (hr0.pass s235 hF237) hx227) rfl fun v228 w229 q230 hS232 F231 => ?_
        obtain ⟨_, rfl, hq234⟩ := hS232
        have s233 := hcl239 _ _ hq234
        refine st_gop F231 rfl rfl (look_b rfl hb223) (ex_len rfl Tryz.underlying22 (formL (s233.own_rd (.tail _ <| .head _)))) rfl rfl fun q243 F244 => ?_
        refine st_gop F244 rfl rfl (look_b rfl hb223) (ex_eq rfl rfl) rfl rfl fun q245 F246 => ?_
        refine st_pr F246 (PR.op (ex_pick_t (ev_b rfl hb223) rfl) <| PR.op (ex_move rfl) <| PR.nil) fun q247 F248 => ?_
        refine bool_split ((x226.length : Int) == 0) (fun hb249 => ?_) (fun hb249 => ?_)
        · replace H := ite_t hb249 H
          obtain ⟨x250, hx251, H⟩ := bind_ok H
          refine st_ungd F248 rfl (look_b rfl hb249) ?_
          have s259 := s233
          obtain ⟨G264, hst260, hF261, hG262, hcl263⟩ := SL.open_ (ps := [Blk g63 31 [.pointer none, .int .i64 0, .slice none 0 0, .slice none 0 0, .map none]]) (rest := [Sl Ty.u8 v228 x226, Sl Ty.u8 v196 x192]) s259
          refine st_call (args := [.tmp 6]) F248 Fx.fn6 rfl (talk_Session_Waits_z_c  hst260  hx251) rfl fun v252 w253 q254 hS256 F255 => ?_
          obtain ⟨rfl, hq258⟩ := hS256
          have s257 := hcl263 _ _ hq258
          refine st_gop F255 rfl rfl (look_b rfl hb249) (ex_eq rfl rfl) rfl rfl fun q265 F266 => ?_
          refine st_pr F266 (PR.op (ex_pick_t (ev_b rfl hb249) rfl) <| PR.op (ex_asg rfl) <| PR.nil) fun q267 F268 => ?_
          refine st_end ?_
          refine then_n ?_
          obtain rfl := some_ok H
          refine wp_ret ?_
          refine ret_gen (rs := [.tmp 2]) (vs := [.bool (x250 == 0)]) F268 (by rfl) ⟨_, _, rfl, RV.tmp rfl, rfl⟩ ⟨_, rfl, ⟨rfl, s257.drop.drop.drop⟩⟩
        · replace H := ite_f hb249 H
          refine st_gskip F248 rfl rfl (look_b rfl hb249) Bool.noConfusion rfl rfl fun q269 F270 => ?_
          refine st_gskip F270 rfl rfl (look_b rfl hb249) Bool.noConfusion rfl rfl fun q271 F272 => ?_
          refine st_pr F272 (PR.op (ex_pick_f (ev_b rfl hb249) rfl) <| PR.op (ex_asg rfl) <| PR.nil) fun q273 F274 => ?_
          refine st_end ?_
          refine then_n ?_
          obtain rfl := some_ok H
          refine wp_ret ?_
          refine ret_gen (rs := [.tmp 2]) (vs := [.bool false]) F274 (by rfl) ⟨_, _, rfl, RV.tmp rfl, rfl⟩ ⟨_, rfl, ⟨rfl, s233.drop.drop.drop⟩⟩
      · replace H := ite_f hb223 H
        refine st_gskip F222 rfl rfl (look_b rfl hb223) Bool.noConfusion rfl rfl fun q275 F276 => ?_
        refine st_gskip F276 rfl rfl (look_b rfl hb223) Bool.noConfusion rfl rfl fun q277 F278 => ?_
        refine st_gskip F278 rfl rfl (look_b rfl hb223) Bool.noConfusion rfl rfl fun q279 F280 => ?_
        refine st_gskip F280 rfl rfl (look_b rfl hb223) Bool.noConfusion rfl rfl fun q281 F282 => ?_
        refine st_pr F282 (PR.op (ex_pick_f (ev_b rfl hb223) rfl) <| PR.op (ex_move rfl) <| PR.nil) fun q283 F284 => ?_
        refine st_gskip F284 rfl rfl rfl Bool.noConfusion rfl rfl fun q285 F286 => ?_
        refine st_gskip F286 rfl rfl rfl Bool.noConfusion rfl rfl fun q287 F288 => ?_
        refine st_pr F288 (PR.op (ex_pick_f rfl rfl) <| PR.op (ex_asg rfl) <| PR.nil) fun q289 F290 => ?_
        refine st_end ?_
        refine then_n ?_
        obtain rfl := some_ok H
        refine wp_ret ?_
        refine ret_gen (rs := [.tmp 2]) (vs := [.bool false]) F290 (by rfl) ⟨_, _, rfl, RV.tmp rfl, rfl⟩ ⟨_, rfl, ⟨rfl, s217.drop.drop⟩⟩
    · replace H := ite_f hb207 H
      refine st_gskip F206 rfl rfl (look_b rfl hb207) Bool.noConfusion rfl rfl fun q291 F292 => ?_
      refine st_gskip F292 rfl rfl (look_b rfl hb207) Bool.noConfusion rfl rfl fun q293 F294 => ?_
      refine st_gskip F294 rfl rfl (look_b rfl hb207) Bool.noConfusion rfl rfl fun q295 F296 => ?_
      refine st_pr F296 (PR.op (ex_pick_f (ev_b rfl hb207) rfl) <| PR.op (ex_move rfl) <| PR.nil) fun q297 F298 => ?_
      refine st_gskip F298 rfl rfl rfl Bool.noConfusion rfl rfl fun q299 F300 => ?_
      refine st_gskip F300 rfl rfl rfl Bool.noConfusion rfl rfl fun q301 F302 => ?_
      refine st_gskip F302 rfl rfl rfl Bool.noConfusion rfl rfl fun q303 F304 => ?_
      refine st_gskip F304 rfl rfl rfl Bool.noConfusion rfl rfl fun q305 F306 => ?_
      refine st_pr F306 (PR.op (ex_pick_f rfl rfl) <| PR.op (ex_move rfl) <| PR.nil) fun q307 F308 => ?_
      refine st_gskip F308 rfl rfl rfl Bool.noConfusion rfl rfl fun q309 F310 => ?_
      refine st_gskip F310 rfl rfl rfl Bool.noConfusion rfl rfl fun q311 F312 => ?_
      refine st_pr F312 (PR.op (ex_pick_f rfl rfl) <| PR.op (ex_asg rfl) <| PR.nil) fun q313 F314 => ?_
      refine st_end ?_
      refine then_n ?_
      obtain rfl := some_ok H
      refine wp_ret ?_
      refine ret_gen (rs := [.tmp 2]) (vs := [.bool false]) F314 (by rfl) ⟨_, _, rfl, RV.tmp rfl, rfl⟩ ⟨_, rfl, ⟨rfl, s201.drop.drop⟩⟩
end Go.Proofs.YtfepcangbajjjacGreat
