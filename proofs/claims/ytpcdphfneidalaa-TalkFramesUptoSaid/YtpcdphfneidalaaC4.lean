/- The walk of proviso/provisolaw24.TalkFrames. -/
import Derived.Test.YtpcdphfneidalaaFx
import Derived.Test.YtpcdphfneidalaaDf
import Derived.Test.YtpcdphfneidalaaC8
import Derived.Test.YtpcdphfneidalaaC14
import Derived.Test.YtpcdphfneidalaaC15
import Derived.Test.YtpcdphfneidalaaC16
import Derived.Test.YtpcdphfneidalaaC17
import Derived.Test.YtpcdphfneidalaaC18
import Derived.Test.YtpcdphfneidalaaC19
set_option linter.unusedVariables false
set_option linter.unusedSimpArgs false
namespace Go.Proofs.Ytpcdphfneidalaa
open Go Go.RowKit Go.Pv
theorem provisolaw24_TalkFrames_c {w : World} {v0_2 v1_1 : Value} {a0 : S_api_Request} {a1 : S_api_Answer} {r : Bool} (hr0_2 : Rd Ty.u8 w [] v0_2 a0.Data) (hr1_1 : Rd Ty.u8 w [] v1_1 a1.Data) (H : provisolaw24_TalkFrames a0 a1 = some r) :
    Calls Try.prog 4 #[.agg ⟨[.int .i64 a0.Command, .int .i64 a0.Number, v0_2]⟩, .agg ⟨[.int .i64 a1.Status, v1_1]⟩] w (Ret fun u_ w_ => u_ = .bool r ∧ SL w [] w_ []) := by
  have s0 : SL w [] w [] := SL.init0 w
  refine call_enter Try.func4 rfl Try.ntmps4 (Nat.le_of_ble_eq_true rfl) (args := [.agg ⟨[.int .i64 a0.Command, .int .i64 a0.Number, v0_2]⟩, .agg ⟨[.int .i64 a1.Status, v1_1]⟩]) fun q0 F0 => ?_
  unfold provisolaw24_TalkFrames at H
  refine wp_seq ?_
  refine wp_reg ?_
  refine st_box F0 s0 rfl rfl rfl fun g15 w16 q17 F18 s19 => ?_
  refine st_box F18 s19 rfl rfl rfl fun g21 w22 q23 F24 s25 => ?_
  refine st_pr F24 (PR.op (ex_asg rfl) <| PR.nil) fun q27 F28 => ?_
  refine st_end ?_
  refine then_n ?_
  refine wp_seq ?_
  refine wp_reg ?_
  obtain ⟨x46, hx47, H⟩ := bind_ok H
  refine st_pr F28 (PR.op (ex_fab Fx.fa35_2 rfl rfl) <| PR.op (ex_ld Fx.nag22 rfl (s25.blk_cell (.tail _ <| .head _) rfl)) <| PR.nil) fun q48 F49 => ?_
  refine st_call (args := [.tmp 13]) F49 Fx.fn8 rfl (provisoplain_Roomy_c (a0 := a0.Data)  (hr0_2.pass0 s25) hx47) rfl fun v50 w51 q52 hS54 F53 => ?_
  obtain ⟨v57, v59, rfl, hv58, hq56⟩ := hS54
  have s55 := s25.add hq56
  refine st_pr F53 (PR.op (ex_move rfl) <| PR.op (ex_extract (v := v57) rfl rfl) <| PR.op (ex_extract (v := v59) rfl rfl) <| PR.op (ex_asg rfl) <| PR.op (ex_asg rfl) <| PR.nil) fun q61 F62 => ?_
  refine st_end ?_
  refine then_n ?_
  refine wp_seq ?_
  refine wp_reg ?_
  have hv79 := (formL (hv58.L (s55.own_rd (.head _))))
  obtain ⟨x80, hx81, H⟩ := bind_ok H
  refine st_pr F62 (PR.op (ex_fab Fx.fa35_0 rfl rfl) <| PR.op (ex_ld Fx.nag3 rfl (s55.blk_cell (.tail _ <| .tail _ <| .head _) rfl)) <| PR.op (ex_fab Fx.fa35_1 rfl rfl) <| PR.op (ex_ld Fx.nag3 rfl (s55.blk_cell (.tail _ <| .tail _ <| .head _) rfl)) <| PR.op (ex_move rfl) <| PR.op (ex_build (vs := [.int .i64 a0.Command, .int .i64 a0.Number, v57]) Fx.zero35 Fx.pl35 rfl (cs := [.int .i64 a0.Command, .int .i64 a0.Number, v57]) (by obtain ⟨_, _, e_0⟩ := hv79; rw [e_0] <;> rfl)) <| PR.nil) fun q82 F83 => ?_
  refine st_call (args := [.tmp 23]) F83 Fx.fn15 rfl (talk_Pack_c (a0 := (⟨a0.Command, a0.Number, x46.1⟩ : S_api_Request))  (hv58.rd (s55.rd0 (.head _))) hx81) rfl fun v84 w85 q86 hS88 F87 => ?_
  obtain ⟨v91, rfl, hq90⟩ := hS88
  have s89 := s55.add hq90
  refine st_pr F87 (PR.op (ex_move rfl) <| PR.op (ex_extract (v := v91) rfl rfl) <| PR.op (ex_extract (v := .int .i64 x80.2) rfl rfl) <| PR.op (ex_asg rfl) <| PR.op (ex_asg rfl) <| PR.nil) fun q93 F94 => ?_
  refine st_end ?_
  refine then_n ?_
  refine wp_seq ?_
  refine wp_reg ?_
  obtain ⟨x110, hx111, H⟩ := bind_ok H
  refine st_pr F94 (PR.op (ex_ldagg Fx.agg35 rfl (s89.blk_cells (.tail _ <| .tail _ <| .tail _ <| .head _) (o := 0) (ds := [.int .i64 a0.Command, .int .i64 a0.Number, v0_2]) (fun j u hu => by rw [Nat.zero_add]; exact hu)) rfl) <| PR.nil) fun q112 F113 => ?_
  refine st_call (args := [.tmp 28]) F113 Fx.fn16 rfl (provisoref24_Pack_c (a0 := (⟨a0.Command, a0.Number, a0.Data⟩ : S_api_Request))  (hr0_2.pass0 s89) hx111) rfl fun v114 w115 q116 hS118 F117 => ?_
  obtain ⟨v121, rfl, hq120⟩ := hS118
  have s119 := s89.add hq120
  refine st_pr F117 (PR.op (ex_move rfl) <| PR.op (ex_extract (v := v121) rfl rfl) <| PR.op (ex_extract (v := .int .i64 x110.2) rfl rfl) <| PR.op (ex_asg rfl) <| PR.op (ex_asg rfl) <| PR.nil) fun q123 F124 => ?_
  refine st_end ?_
  refine then_n ?_
  refine wp_seq ?_
  refine wp_seq ?_
  refine wp_reg ?_
  refine st_pr F124 (PR.op (ex_move rfl) <| PR.op (ex_move rfl) <| PR.op (ex_ne rfl rfl) <| PR.op (ex_move rfl) <| PR.nil) fun q212 F213 => ?_
  refine bool_split (x80.2 != x110.2) (fun hb214 => ?_) (fun hb214 => ?_)
  · replace H := ite_t hb214 H
    refine st_gskip F213 rfl rfl (look_b rfl hb214) Bool.noConfusion rfl rfl fun q215 F216 => ?_
    refine st_gskip F216 rfl rfl (look_b rfl hb214) Bool.noConfusion rfl rfl fun q217 F218 => ?_
    refine st_gskip F218 rfl rfl (look_b rfl hb214) Bool.noConfusion rfl rfl fun q219 F220 => ?_
    refine st_gskip F220 rfl rfl (look_b rfl hb214) Bool.noConfusion rfl rfl fun q221 F222 => ?_
    refine st_pr F222 (PR.op (ex_pick_t (ev_b rfl hb214) rfl) <| PR.op (ex_move rfl) <| PR.nil) fun q223 F224 => ?_
    refine st_gskip F224 rfl rfl rfl Bool.noConfusion rfl rfl fun q225 F226 => ?_
    refine st_gskip F226 rfl rfl rfl Bool.noConfusion rfl rfl fun q227 F228 => ?_
    refine st_gskip F228 rfl rfl rfl Bool.noConfusion rfl rfl fun q229 F230 => ?_
    refine st_gskip F230 rfl rfl rfl Bool.noConfusion rfl rfl fun q231 F232 => ?_
    refine st_gskip F232 rfl rfl rfl Bool.noConfusion rfl rfl fun q233 F234 => ?_
    refine st_pr F234 (PR.op (ex_pick_t rfl rfl) <| PR.nil) fun q235 F236 => ?_
    refine st_end ?_
    refine then_n ?_
    refine wp_if_t F236 rfl ?_
    refine wp_seq ?_
    refine wp_reg ?_
    refine st_pr F236 (PR.op (ex_asg rfl) <| PR.nil) fun q239 F240 => ?_
    refine st_end ?_
    refine then_n ?_
    obtain rfl := some_ok H
    refine wp_ret ?_
    refine then_r ?_
    refine ret_gen (rs := [.tmp 4]) (vs := [.bool false]) F240 (by rfl) ⟨_, _, rfl, RV.tmp rfl, rfl⟩ ⟨_, rfl, ⟨rfl, s119.drop.drop.drop.drop.drop⟩⟩
  · replace H := ite_f hb214 H
    refine st_gop F213 rfl rfl (look_b rfl hb214) (ex_move rfl) rfl rfl fun q241 F242 => ?_
    refine st_gop F242 rfl rfl (look_b rfl hb214) (ex_move rfl) rfl rfl fun q243 F244 => ?_
    obtain ⟨x245, hx246, H⟩ := bind_ok H
    refine st_ungd F244 rfl (look_b rfl hb214) ?_
    refine st_call (args := [.tmp 36, .tmp 37]) F244 Fx.fn17 rfl (slices_Equal_byte_byte_c (a0 := x80.1) (a1 := x110.1)  (s119.rd0 (.tail _ <| .head _)) (s119.rd0 (.head _)) hx246) rfl fun v247 w248 q249 hS251 F250 => ?_
    obtain ⟨rfl, hq253⟩ := hS251
    have s252 := s119.add hq253
    refine st_gop F250 rfl rfl (look_b rfl hb214) (ex_not rfl) rfl rfl fun q254 F255 => ?_
    refine st_pr F255 (PR.op (ex_pick_f (ev_b rfl hb214) rfl) <| PR.op (ex_move rfl) <| PR.nil) fun q256 F257 => ?_
    refine bool_split (!x245) (fun hb258 => ?_) (fun hb258 => ?_)
    · replace H := ite_t hb258 H
      refine st_gskip F257 rfl rfl (look_b rfl hb258) Bool.noConfusion rfl rfl fun q259 F260 => ?_
      refine st_gskip F260 rfl rfl (look_b rfl hb258) Bool.noConfusion rfl rfl fun q261 F262 => ?_
      refine st_gskip F262 rfl rfl (look_b rfl hb258) Bool.noConfusion rfl rfl fun q263 F264 => ?_
      refine st_gskip F264 rfl rfl (look_b rfl hb258) Bool.noConfusion rfl rfl fun q265 F266 => ?_
      refine st_gskip F266 rfl rfl (look_b rfl hb258) Bool.noConfusion rfl rfl fun q267 F268 => ?_
      refine st_pr F268 (PR.op (ex_pick_t (ev_b rfl hb258) rfl) <| PR.nil) fun q269 F270 => ?_
      refine st_end ?_
      refine then_n ?_
      refine wp_if_t F270 rfl ?_
      refine wp_seq ?_
      refine wp_reg ?_
      refine st_pr F270 (PR.op (ex_asg rfl) <| PR.nil) fun q273 F274 => ?_
      refine st_end ?_
      refine then_n ?_
      obtain rfl := some_ok H
      refine wp_ret ?_
      refine then_r ?_
      refine ret_gen (rs := [.tmp 4]) (vs := [.bool false]) F274 (by rfl) ⟨_, _, rfl, RV.tmp rfl, rfl⟩ ⟨_, rfl, ⟨rfl, s252.drop.drop.drop.drop.drop⟩⟩
    · replace H := ite_f hb258 H
      refine st_gop F257 rfl rfl (look_b rfl hb258) (ex_move rfl) rfl rfl fun q275 F276 => ?_
      refine st_gop F276 rfl rfl (look_b rfl hb258) (ex_fab Fx.fa35_2 rfl rfl) rfl rfl fun q277 F278 => ?_
      refine st_gop F278 rfl rfl (look_b rfl hb258) (ex_ld Fx.nag22 rfl (s252.blk_cell (.tail _ <| .tail _ <| .tail _ <| .tail _ <| .head _) rfl)) rfl rfl fun q279 F280 => ?_
      obtain ⟨x281, hx282, H⟩ := bind_ok H
      refine st_ungd F280 rfl (look_b rfl hb258) ?_
      refine st_call (args := [.tmp 42, .tmp 44]) F280 Fx.fn14 rfl (provisoplain_Untouched_c (a0 := x46.2) (a1 := a0.Data)  (s252.rd0 (.tail _ <| .tail _ <| .head _)) (hr0_2.pass0 s252) hx282) rfl fun v283 w284 q285 hS287 F286 => ?_
      obtain ⟨rfl, hq289⟩ := hS287
      have s288 := s252.add hq289
      refine st_gop F286 rfl rfl (look_b rfl hb258) (ex_not rfl) rfl rfl fun q290 F291 => ?_
      refine st_pr F291 (PR.op (ex_pick_f (ev_b rfl hb258) rfl) <| PR.nil) fun q292 F293 => ?_
      refine st_end ?_
      refine then_n ?_
      refine wp_if F293 rfl (fun hb294 => ?_) (fun hb294 => ?_)
      · replace H := ite_t hb294 H
        refine wp_seq ?_
        refine wp_reg ?_
        refine st_pr F293 (PR.op (ex_asg rfl) <| PR.nil) fun q297 F298 => ?_
        refine st_end ?_
        refine then_n ?_
        obtain rfl := some_ok H
        refine wp_ret ?_
        refine then_r ?_
        refine ret_gen (rs := [.tmp 4]) (vs := [.bool false]) F298 (by rfl) ⟨_, _, rfl, RV.tmp rfl, rfl⟩ ⟨_, rfl, ⟨rfl, s288.drop.drop.drop.drop.drop⟩⟩
      · replace H := ite_f hb294 H
        refine wp_skip ?_
        refine then_n ?_
        refine wp_seq ?_
        refine wp_reg ?_
        obtain ⟨x316, hx317, H⟩ := bind_ok H
        refine st_pr F293 (PR.op (ex_fab Fx.fa41_1 rfl rfl) <| PR.op (ex_ld Fx.nag22 rfl (s288.blk_cell (.tail _ <| .tail _ <| .tail _ <| .head _) rfl)) <| PR.nil) fun q318 F319 => ?_
        refine st_call (args := [.tmp 50]) F319 Fx.fn8 rfl (provisoplain_Roomy_c (a0 := a1.Data)  (hr1_1.pass0 s288) hx317) rfl fun v320 w321 q322 hS324 F323 => ?_
        obtain ⟨v327, v329, rfl, hv328, hq326⟩ := hS324
        have s325 := s288.add hq326
        refine st_pr F323 (PR.op (ex_move rfl) <| PR.op (ex_extract (v := v327) rfl rfl) <| PR.op (ex_extract (v := v329) rfl rfl) <| PR.op (ex_asg rfl) <| PR.op (ex_asg rfl) <| PR.nil) fun q331 F332 => ?_
        refine st_end ?_
        refine then_n ?_
        refine wp_seq ?_
        refine wp_reg ?_
        have hv349 := (formL (hv328.L (s325.own_rd (.head _))))
        obtain ⟨x350, hx351, H⟩ := bind_ok H
        refine st_pr F332 (PR.op (ex_fab Fx.fa41_0 rfl rfl) <| PR.op (ex_ld Fx.nag3 rfl (s325.blk_cell (.tail _ <| .tail _ <| .tail _ <| .tail _ <| .head _) rfl)) <| PR.op (ex_move rfl) <| PR.op (ex_build (vs := [.int .i64 a1.Status, v327]) Fx.zero41 Fx.pl41 rfl (cs := [.int .i64 a1.Status, v327]) (by obtain ⟨_, _, e_0⟩ := hv349; rw [e_0] <;> rfl)) <| PR.nil) fun q352 F353 => ?_
        refine st_call (args := [.tmp 58]) F353 Fx.fn18 rfl (talk_Told_c (a0 := (⟨a1.Status, x316.1⟩ : S_api_Answer))  (hv328.rd (s325.rd0 (.head _))) hx351) rfl fun v354 w355 q356 hS358 F357 => ?_
        obtain ⟨v361, rfl, hq360⟩ := hS358
        have s359 := s325.add hq360
        refine st_pr F357 (PR.op (ex_move rfl) <| PR.op (ex_extract (v := v361) rfl rfl) <| PR.op (ex_extract (v := .int .i64 x350.2) rfl rfl) <| PR.op (ex_asg rfl) <| PR.op (ex_asg rfl) <| PR.nil) fun q363 F364 => ?_
        refine st_end ?_
        refine then_n ?_
        refine wp_seq ?_
        refine wp_reg ?_
        obtain ⟨x380, hx381, H⟩ := bind_ok H
        refine st_pr F364 (PR.op (ex_ldagg Fx.agg41 rfl (s359.blk_cells (.tail _ <| .tail _ <| .tail _ <| .tail _ <| .tail _ <| .head _) (o := 0) (ds := [.int .i64 a1.Status, v1_1]) (fun j u hu => by rw [Nat.zero_add]; exact hu)) rfl) <| PR.nil) fun q382 F383 => ?_
        refine st_call (args := [.tmp 63]) F383 Fx.fn19 rfl (provisoref24_Answered_c (a0 := (⟨a1.Status, a1.Data⟩ : S_api_Answer))  (hr1_1.pass0 s359) hx381) rfl fun v384 w385 q386 hS388 F387 => ?_
        obtain ⟨v391, rfl, hq390⟩ := hS388
        have s389 := s359.add hq390
        refine st_pr F387 (PR.op (ex_move rfl) <| PR.op (ex_extract (v := v391) rfl rfl) <| PR.op (ex_extract (v := .int .i64 x380.2) rfl rfl) <| PR.op (ex_asg rfl) <| PR.op (ex_asg rfl) <| PR.nil) fun q393 F394 => ?_
        refine st_end ?_
        refine then_n ?_
        refine wp_seq ?_
        refine wp_reg ?_
        refine st_pr F394 (PR.op (ex_move rfl) <| PR.op (ex_move rfl) <| PR.op (ex_eq rfl rfl) <| PR.op (ex_move rfl) <| PR.nil) fun q459 F460 => ?_
        refine bool_split (x350.2 == x380.2) (fun hb461 => ?_) (fun hb461 => ?_)
        · replace H := ite_t hb461 H
          refine st_gop F460 rfl rfl (look_b rfl hb461) (ex_move rfl) rfl rfl fun q462 F463 => ?_
          refine st_gop F463 rfl rfl (look_b rfl hb461) (ex_move rfl) rfl rfl fun q464 F465 => ?_
          obtain ⟨x466, hx467, H⟩ := bind_ok H
          refine st_ungd F465 rfl (look_b rfl hb461) ?_
          refine st_call (args := [.tmp 71, .tmp 72]) F465 Fx.fn17 rfl (slices_Equal_byte_byte_c (a0 := x350.1) (a1 := x380.1)  (s389.rd0 (.tail _ <| .head _)) (s389.rd0 (.head _)) hx467) rfl fun v468 w469 q470 hS472 F471 => ?_
          obtain ⟨rfl, hq474⟩ := hS472
          have s473 := s389.add hq474
          refine st_pr F471 (PR.op (ex_pick_t (ev_b rfl hb461) rfl) <| PR.op (ex_move rfl) <| PR.nil) fun q475 F476 => ?_
          refine bool_split x466 (fun hb477 => ?_) (fun hb477 => ?_)
          · replace H := ite_t hb477 H
            refine st_gop F476 rfl rfl (look_b rfl hb477) (ex_move rfl) rfl rfl fun q478 F479 => ?_
            refine st_gop F479 rfl rfl (look_b rfl hb477) (ex_fab Fx.fa41_1 rfl rfl) rfl rfl fun q480 F481 => ?_
            refine st_gop F481 rfl rfl (look_b rfl hb477) (ex_ld Fx.nag22 rfl (s473.blk_cell (.tail _ <| .tail _ <| .tail _ <| .tail _ <| .tail _ <| .tail _ <| .head _) rfl)) rfl rfl fun q482 F483 => ?_
            obtain ⟨x484, hx485, H⟩ := bind_ok H
            refine st_ungd F483 rfl (look_b rfl hb477) ?_
            refine st_call (args := [.tmp 76, .tmp 78]) F483 Fx.fn14 rfl (provisoplain_Untouched_c (a0 := x316.2) (a1 := a1.Data)  (s473.rd0 (.tail _ <| .tail _ <| .head _)) (hr1_1.pass0 s473) hx485) rfl fun v486 w487 q488 hS490 F489 => ?_
            obtain ⟨rfl, hq492⟩ := hS490
            have s491 := s473.add hq492
            refine st_pr F489 (PR.op (ex_pick_t (ev_b rfl hb477) rfl) <| PR.op (ex_asg rfl) <| PR.nil) fun q493 F494 => ?_
            refine st_end ?_
            refine then_n ?_
            obtain rfl := some_ok H
            refine wp_ret ?_
            refine ret_gen (rs := [.tmp 4]) (vs := [.bool x484]) F494 (by rfl) ⟨_, _, rfl, RV.tmp rfl, rfl⟩ ⟨_, rfl, ⟨rfl, s491.drop.drop.drop.drop.drop.drop.drop.drop⟩⟩
          · replace H := ite_f hb477 H
            refine st_gskip F476 rfl rfl (look_b rfl hb477) Bool.noConfusion rfl rfl fun q495 F496 => ?_
            refine st_gskip F496 rfl rfl (look_b rfl hb477) Bool.noConfusion rfl rfl fun q497 F498 => ?_
            refine st_gskip F498 rfl rfl (look_b rfl hb477) Bool.noConfusion rfl rfl fun q499 F500 => ?_
            refine st_gskip F500 rfl rfl (look_b rfl hb477) Bool.noConfusion rfl rfl fun q501 F502 => ?_
            refine st_pr F502 (PR.op (ex_pick_f (ev_b rfl hb477) rfl) <| PR.op (ex_asg rfl) <| PR.nil) fun q503 F504 => ?_
            refine st_end ?_
            refine then_n ?_
            obtain rfl := some_ok H
            refine wp_ret ?_
            refine ret_gen (rs := [.tmp 4]) (vs := [.bool false]) F504 (by rfl) ⟨_, _, rfl, RV.tmp rfl, rfl⟩ ⟨_, rfl, ⟨rfl, s473.drop.drop.drop.drop.drop.drop.drop.drop⟩⟩
        · replace H := ite_f hb461 H
          refine st_gskip F460 rfl rfl (look_b rfl hb461) Bool.noConfusion rfl rfl fun q505 F506 => ?_
          refine st_gskip F506 rfl rfl (look_b rfl hb461) Bool.noConfusion rfl rfl fun q507 F508 => ?_
          refine st_gskip F508 rfl rfl (look_b rfl hb461) Bool.noConfusion rfl rfl fun q509 F510 => ?_
          refine st_pr F510 (PR.op (ex_pick_f (ev_b rfl hb461) rfl) <| PR.op (ex_move rfl) <| PR.nil) fun q511 F512 => ?_
          refine st_gskip F512 rfl rfl rfl Bool.noConfusion rfl rfl fun q513 F514 => ?_
          refine st_gskip F514 rfl rfl rfl Bool.noConfusion rfl rfl fun q515 F516 => ?_
          refine st_gskip F516 rfl rfl rfl Bool.noConfusion rfl rfl fun q517 F518 => ?_
          refine st_gskip F518 rfl rfl rfl Bool.noConfusion rfl rfl fun q519 F520 => ?_
          refine st_pr F520 (PR.op (ex_pick_f rfl rfl) <| PR.op (ex_asg rfl) <| PR.nil) fun q521 F522 => ?_
          refine st_end ?_
          refine then_n ?_
          obtain rfl := some_ok H
          refine wp_ret ?_
          refine ret_gen (rs := [.tmp 4]) (vs := [.bool false]) F522 (by rfl) ⟨_, _, rfl, RV.tmp rfl, rfl⟩ ⟨_, rfl, ⟨rfl, s389.drop.drop.drop.drop.drop.drop.drop.drop⟩⟩
end Go.Proofs.Ytpcdphfneidalaa
