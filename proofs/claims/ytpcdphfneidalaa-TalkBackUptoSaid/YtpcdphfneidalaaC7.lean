/- The walk of proviso/provisolaw24.TalkBack. -/
import Derived.Test.YtpcdphfneidalaaFx
import Derived.Test.YtpcdphfneidalaaDf
import Derived.Test.YtpcdphfneidalaaC11
import Derived.Test.YtpcdphfneidalaaC15
import Derived.Test.YtpcdphfneidalaaC18
import Derived.Test.YtpcdphfneidalaaC20
import Derived.Test.YtpcdphfneidalaaC22
import Derived.Test.YtpcdphfneidalaaC24
import Derived.Test.YtpcdphfneidalaaC25
import Derived.Test.YtpcdphfneidalaaC26
set_option linter.unusedVariables false
set_option linter.unusedSimpArgs false
namespace Go.Proofs.Ytpcdphfneidalaa
open Go Go.RowKit Go.Pv
theorem provisolaw24_TalkBack_c {w : World} {v0_2 : Value} {a0 : S_api_Request} {a1 : Int} {r : Bool} (hr0_2 : Rd Ty.u8 w [] v0_2 a0.Data) (H : provisolaw24_TalkBack a0 a1 = some r) :
    Calls Try.prog 7 #[.agg ⟨[.int .i64 a0.Command, .int .i64 a0.Number, v0_2]⟩, .int .u64 a1] w (Ret fun u_ w_ => u_ = .bool r ∧ SL w [] w_ []) := by
  have s0 : SL w [] w [] := SL.init0 w
  refine call_enter Try.func7 rfl Try.ntmps7 (Nat.le_of_ble_eq_true rfl) (args := [.agg ⟨[.int .i64 a0.Command, .int .i64 a0.Number, v0_2]⟩, .int .u64 a1]) fun q0 F0 => ?_
  unfold provisolaw24_TalkBack at H
  refine wp_seq ?_
  refine wp_reg ?_
  refine st_box F0 s0 rfl rfl rfl fun g9 w10 q11 F12 s13 => ?_
  refine st_pr F12 (PR.op (ex_asg rfl) <| PR.nil) fun q15 F16 => ?_
  refine st_end ?_
  refine then_n ?_
  refine wp_seq ?_
  refine wp_seq ?_
  refine wp_reg ?_
  obtain ⟨x79, hx80, H⟩ := bind_ok H
  refine st_pr F16 (PR.op (ex_ldagg Fx.agg35 rfl (s13.blk_cells (.head _) (o := 0) (ds := [.int .i64 a0.Command, .int .i64 a0.Number, v0_2]) (fun j u hu => by rw [Nat.zero_add]; exact hu)) rfl) <| PR.nil) fun q81 F82 => ?_
  refine st_call (args := [.tmp 14]) F82 Fx.fn25 rfl (provisolaw24_may_c (a0 := (⟨a0.Command, a0.Number, a0.Data⟩ : S_api_Request))  (hr0_2.pass0 s13) hx80) rfl fun v83 w84 q85 hS87 F86 => ?_
  obtain ⟨rfl, hq89⟩ := hS87
  have s88 := s13.add hq89
  refine st_pr F86 (PR.op (ex_not rfl) <| PR.nil) fun q90 F91 => ?_
  refine st_end ?_
  refine then_n ?_
  refine wp_if F91 rfl (fun hb92 => ?_) (fun hb92 => ?_)
  · replace H := ite_t hb92 H
    refine wp_seq ?_
    refine wp_reg ?_
    obtain ⟨x104, hx105, H⟩ := bind_ok H
    refine st_call (args := []) F91 Fx.fn26 rfl (provisolaw24_awake_c    hx105) rfl fun v106 w107 q108 hS110 F109 => ?_
    obtain ⟨rfl, hq112⟩ := hS110
    have s111 := s88.add hq112
    refine st_pr F109 (PR.op (ex_asg rfl) <| PR.nil) fun q113 F114 => ?_
    refine st_end ?_
    refine then_n ?_
    obtain rfl := some_ok H
    refine wp_ret ?_
    refine then_r ?_
    refine ret_gen (rs := [.tmp 4]) (vs := [.bool x104]) F114 (by rfl) ⟨_, _, rfl, RV.tmp rfl, rfl⟩ ⟨_, rfl, ⟨rfl, s111.drop⟩⟩
  · replace H := ite_f hb92 H
    refine wp_skip ?_
    refine then_n ?_
    refine wp_seq ?_
    refine wp_reg ?_
    obtain ⟨x130, hx131, H⟩ := bind_ok H
    refine st_pr F91 (PR.op (ex_ldagg Fx.agg35 rfl (s88.blk_cells (.head _) (o := 0) (ds := [.int .i64 a0.Command, .int .i64 a0.Number, v0_2]) (fun j u hu => by rw [Nat.zero_add]; exact hu)) rfl) <| PR.nil) fun q132 F133 => ?_
    refine st_call (args := [.tmp 19]) F133 Fx.fn15 rfl (talk_Pack_c (a0 := (⟨a0.Command, a0.Number, a0.Data⟩ : S_api_Request))  (hr0_2.pass0 s88) hx131) rfl fun v134 w135 q136 hS138 F137 => ?_
    obtain ⟨v141, rfl, hq140⟩ := hS138
    have s139 := s88.add hq140
    refine st_pr F137 (PR.op (ex_move rfl) <| PR.op (ex_extract (v := v141) rfl rfl) <| PR.op (ex_extract (v := .int .i64 x130.2) rfl rfl) <| PR.op (ex_asg rfl) <| PR.op (ex_asg rfl) <| PR.nil) fun q143 F144 => ?_
    refine st_end ?_
    refine then_n ?_
    refine wp_seq ?_
    refine wp_reg ?_
    obtain ⟨x173, hx174, H⟩ := bind_ok H
    refine st_pr F144 (PR.op (ex_move rfl) <| PR.nil) fun q175 F176 => ?_
    refine st_call (args := [.tmp 24]) F176 Fx.fn20 rfl (talk_Unpack_c (a0 := x130.1)  (s139.rd0 (.head _)) hx174) rfl fun v177 w178 q179 hS181 F180 => ?_
    obtain ⟨v184, rfl, hq183⟩ := hS181
    have s182 := s139.add hq183
    refine st_pr F180 (PR.op (ex_move rfl) <| PR.op (ex_extract (v := .agg ⟨[.int .i64 x173.1.Command, .int .i64 x173.1.Number, v184]⟩) rfl rfl) <| PR.op (ex_extract (v := .int .i64 x173.2) rfl rfl) <| PR.nil) fun q186 F187 => ?_
    refine st_alloc F187 s182 Fx.zero35 rfl rfl fun g188 w189 q190 F191 s192 => ?_
    have s198 := s192
    refine st_storea F191 s198 rfl rfl Fx.sz35 (one_cons rfl (one_cons rfl (one_cons (form_one (formL (s198.own_rd (.tail _ <| .head _)))) one_nil))) (Nat.le_of_ble_eq_true rfl) fun w194 q195 F196 s197 => ?_
    replace s197 : SL w [] w194 [Blk g188 35 [.int .i64 x173.1.Command, .int .i64 x173.1.Number, v184], Sl Ty.u8 v184 x173.1.Data, Sl Ty.u8 v141 x130.1, Blk g9 35 [.int .i64 a0.Command, .int .i64 a0.Number, v0_2]] := s197
    refine st_pr F196 (PR.op (ex_asg rfl) <| PR.nil) fun q199 F200 => ?_
    refine st_end ?_
    refine then_n ?_
    refine wp_seq ?_
    refine wp_reg ?_
    have hv215 := (formL (rdL hr0_2 s197))
    refine st_pr F200 (PR.op (ex_move rfl) <| PR.op (ex_rem rfl rfl rfl) <| PR.op (ex_conv rfl Try.underlying52 Try.underlying3) <| PR.op (ex_fab Fx.fa35_2 rfl rfl) <| PR.op (ex_ld Fx.nag22 rfl (s197.blk_cell (.tail _ <| .tail _ <| .tail _ <| .head _) rfl)) <| PR.op (ex_build (vs := [.int .i64 (wr (Int.tmod a1 65536)), v0_2]) Fx.zero41 Fx.pl41 rfl (cs := [.int .i64 (wr (Int.tmod a1 65536)), v0_2]) (by obtain ⟨_, _, e_0⟩ := hv215; rw [e_0] <;> rfl)) <| PR.nil) fun q216 F217 => ?_
    refine st_alloc F217 s197 Fx.zero41 rfl rfl fun g218 w219 q220 F221 s222 => ?_
    have s228 := s222
    refine st_storea F221 s228 rfl rfl Fx.sz41 (one_cons rfl (one_cons (form_one (formL (rdL hr0_2 s228))) one_nil)) (Nat.le_of_ble_eq_true rfl) fun w224 q225 F226 s227 => ?_
    replace s227 : SL w [] w224 [Blk g218 41 [.int .i64 (wr (Int.tmod a1 65536)), v0_2], Blk g188 35 [.int .i64 x173.1.Command, .int .i64 x173.1.Number, v184], Sl Ty.u8 v184 x173.1.Data, Sl Ty.u8 v141 x130.1, Blk g9 35 [.int .i64 a0.Command, .int .i64 a0.Number, v0_2]] := s227
    refine st_end ?_
    refine then_n ?_
    refine wp_seq ?_
    refine wp_reg ?_
    obtain ⟨x244, hx245, H⟩ := bind_ok H
    refine st_pr F226 (PR.op (ex_ldagg Fx.agg41 rfl (s227.blk_cells (.head _) (o := 0) (ds := [.int .i64 (wr (Int.tmod a1 65536)), v0_2]) (fun j u hu => by rw [Nat.zero_add]; exact hu)) rfl) <| PR.nil) fun q246 F247 => ?_
    refine st_call (args := [.tmp 35]) F247 Fx.fn18 rfl (talk_Told_c (a0 := (⟨wr (Int.tmod a1 65536), a0.Data⟩ : S_api_Answer))  (hr0_2.pass0 s227) hx245) rfl fun v248 w249 q250 hS252 F251 => ?_
    obtain ⟨v255, rfl, hq254⟩ := hS252
    have s253 := s227.add hq254
    refine st_pr F251 (PR.op (ex_move rfl) <| PR.op (ex_extract (v := v255) rfl rfl) <| PR.op (ex_extract (v := .int .i64 x244.2) rfl rfl) <| PR.op (ex_asg rfl) <| PR.op (ex_asg rfl) <| PR.nil) fun q257 F258 => ?_
    refine st_end ?_
    refine then_n ?_
    refine wp_seq ?_
    refine wp_reg ?_
    obtain ⟨x287, hx288, H⟩ := bind_ok H
    refine st_pr F258 (PR.op (ex_move rfl) <| PR.nil) fun q289 F290 => ?_
    refine st_call (args := [.tmp 40]) F290 Fx.fn22 rfl (talk_Heard_c (a0 := x244.1)  (s253.rd0 (.head _)) hx288) rfl fun v291 w292 q293 hS295 F294 => ?_
    obtain ⟨v298, rfl, hq297⟩ := hS295
    have s296 := s253.add hq297
    refine st_pr F294 (PR.op (ex_move rfl) <| PR.op (ex_extract (v := .agg ⟨[.int .i64 x287.1.Status, v298]⟩) rfl rfl) <| PR.op (ex_extract (v := .int .i64 x287.2) rfl rfl) <| PR.nil) fun q300 F301 => ?_
    refine st_alloc F301 s296 Fx.zero41 rfl rfl fun g302 w303 q304 F305 s306 => ?_
    have s312 := s306
    refine st_storea F305 s312 rfl rfl Fx.sz41 (one_cons rfl (one_cons (form_one (formL (s312.own_rd (.tail _ <| .head _)))) one_nil)) (Nat.le_of_ble_eq_true rfl) fun w308 q309 F310 s311 => ?_
    replace s311 : SL w [] w308 [Blk g302 41 [.int .i64 x287.1.Status, v298], Sl Ty.u8 v298 x287.1.Data, Sl Ty.u8 v255 x244.1, Blk g218 41 [.int .i64 (wr (Int.tmod a1 65536)), v0_2], Blk g188 35 [.int .i64 x173.1.Command, .int .i64 x173.1.Number, v184], Sl Ty.u8 v184 x173.1.Data, Sl Ty.u8 v141 x130.1, Blk g9 35 [.int .i64 a0.Command, .int .i64 a0.Number, v0_2]] := s311
    refine st_pr F310 (PR.op (ex_asg rfl) <| PR.nil) fun q313 F314 => ?_
    refine st_end ?_
    refine then_n ?_
    refine wp_seq ?_
    refine wp_reg ?_
    refine st_pr F314 (PR.op (ex_move rfl) <| PR.op (ex_eq rfl rfl) <| PR.op (ex_move rfl) <| PR.nil) fun q478 F479 => ?_
    refine bool_split (x130.2 == 0) (fun hb480 => ?_) (fun hb480 => ?_)
    · replace H := ite_t hb480 H
      refine st_gop F479 rfl rfl (look_b rfl hb480) (ex_move rfl) rfl rfl fun q481 F482 => ?_
      refine st_gop F482 rfl rfl (look_b rfl hb480) (ex_eq rfl rfl) rfl rfl fun q483 F484 => ?_
      refine st_pr F484 (PR.op (ex_pick_t (ev_b rfl hb480) rfl) <| PR.op (ex_move rfl) <| PR.nil) fun q485 F486 => ?_
      refine bool_split (x173.2 == 0) (fun hb487 => ?_) (fun hb487 => ?_)
      · replace H := ite_t hb487 H
        refine st_gop F486 rfl rfl (look_b rfl hb487) (ex_move rfl) rfl rfl fun q488 F489 => ?_
        refine st_gop F489 rfl rfl (look_b rfl hb487) (ex_eq rfl rfl) rfl rfl fun q490 F491 => ?_
        refine st_pr F491 (PR.op (ex_pick_t (ev_b rfl hb487) rfl) <| PR.op (ex_move rfl) <| PR.nil) fun q492 F493 => ?_
        refine bool_split (x244.2 == 0) (fun hb494 => ?_) (fun hb494 => ?_)
        · replace H := ite_t hb494 H
          refine st_gop F493 rfl rfl (look_b rfl hb494) (ex_move rfl) rfl rfl fun q495 F496 => ?_
          refine st_gop F496 rfl rfl (look_b rfl hb494) (ex_eq rfl rfl) rfl rfl fun q497 F498 => ?_
          refine st_pr F498 (PR.op (ex_pick_t (ev_b rfl hb494) rfl) <| PR.op (ex_move rfl) <| PR.nil) fun q499 F500 => ?_
          refine bool_split (x287.2 == 0) (fun hb501 => ?_) (fun hb501 => ?_)
          · replace H := ite_t hb501 H
            refine st_gop F500 rfl rfl (look_b rfl hb501) (ex_ldagg Fx.agg35 rfl (s311.blk_cells (.tail _ <| .tail _ <| .tail _ <| .tail _ <| .head _) (o := 0) (ds := [.int .i64 x173.1.Command, .int .i64 x173.1.Number, v184]) (fun j u hu => by rw [Nat.zero_add]; exact hu)) rfl) rfl rfl fun q502 F503 => ?_
            refine st_gop F503 rfl rfl (look_b rfl hb501) (ex_ldagg Fx.agg35 rfl (s311.blk_cells (.tail _ <| .tail _ <| .tail _ <| .tail _ <| .tail _ <| .tail _ <| .tail _ <| .head _) (o := 0) (ds := [.int .i64 a0.Command, .int .i64 a0.Number, v0_2]) (fun j u hu => by rw [Nat.zero_add]; exact hu)) rfl) rfl rfl fun q504 F505 => ?_
            obtain ⟨x506, hx507, H⟩ := bind_ok H
            refine st_ungd F505 rfl (look_b rfl hb501) ?_
            refine st_call (args := [.tmp 59, .tmp 60]) F505 Fx.fn11 rfl (provisolaw24_sameRequest_c (a0 := (⟨x173.1.Command, x173.1.Number, x173.1.Data⟩ : S_api_Request)) (a1 := (⟨a0.Command, a0.Number, a0.Data⟩ : S_api_Request))  (s311.rd0 (.tail _ <| .tail _ <| .tail _ <| .tail _ <| .tail _ <| .head _)) (hr0_2.pass0 s311) hx507) rfl fun v508 w509 q510 hS512 F511 => ?_
            obtain ⟨rfl, hq514⟩ := hS512
            have s513 := s311.add hq514
            refine st_pr F511 (PR.op (ex_pick_t (ev_b rfl hb501) rfl) <| PR.op (ex_move rfl) <| PR.nil) fun q515 F516 => ?_
            refine bool_split x506 (fun hb517 => ?_) (fun hb517 => ?_)
            · replace H := ite_t hb517 H
              refine st_gop F516 rfl rfl (look_b rfl hb517) (ex_ldagg Fx.agg41 rfl (s513.blk_cells (.head _) (o := 0) (ds := [.int .i64 x287.1.Status, v298]) (fun j u hu => by rw [Nat.zero_add]; exact hu)) rfl) rfl rfl fun q518 F519 => ?_
              refine st_gop F519 rfl rfl (look_b rfl hb517) (ex_ldagg Fx.agg41 rfl (s513.blk_cells (.tail _ <| .tail _ <| .tail _ <| .head _) (o := 0) (ds := [.int .i64 (wr (Int.tmod a1 65536)), v0_2]) (fun j u hu => by rw [Nat.zero_add]; exact hu)) rfl) rfl rfl fun q520 F521 => ?_
              obtain ⟨x522, hx523, H⟩ := bind_ok H
              refine st_ungd F521 rfl (look_b rfl hb517) ?_
              refine st_call (args := [.tmp 64, .tmp 65]) F521 Fx.fn24 rfl (provisolaw24_sameAnswer_c (a0 := (⟨x287.1.Status, x287.1.Data⟩ : S_api_Answer)) (a1 := (⟨wr (Int.tmod a1 65536), a0.Data⟩ : S_api_Answer))  (s513.rd0 (.tail _ <| .head _)) (hr0_2.pass0 s513) hx523) rfl fun v524 w525 q526 hS528 F527 => ?_
              obtain ⟨rfl, hq530⟩ := hS528
              have s529 := s513.add hq530
              refine st_pr F527 (PR.op (ex_pick_t (ev_b rfl hb517) rfl) <| PR.op (ex_asg rfl) <| PR.nil) fun q531 F532 => ?_
              refine st_end ?_
              refine then_n ?_
              obtain rfl := some_ok H
              refine wp_ret ?_
              refine ret_gen (rs := [.tmp 4]) (vs := [.bool x522]) F532 (by rfl) ⟨_, _, rfl, RV.tmp rfl, rfl⟩ ⟨_, rfl, ⟨rfl, s529.drop.drop.drop.drop.drop.drop.drop.drop⟩⟩
            · replace H := ite_f hb517 H
              refine st_gskip F516 rfl rfl (look_b rfl hb517) Bool.noConfusion rfl rfl fun q533 F534 => ?_
              refine st_gskip F534 rfl rfl (look_b rfl hb517) Bool.noConfusion rfl rfl fun q535 F536 => ?_
              refine st_gskip F536 rfl rfl (look_b rfl hb517) Bool.noConfusion rfl rfl fun q537 F538 => ?_
              refine st_pr F538 (PR.op (ex_pick_f (ev_b rfl hb517) rfl) <| PR.op (ex_asg rfl) <| PR.nil) fun q539 F540 => ?_
              refine st_end ?_
              refine then_n ?_
              obtain rfl := some_ok H
              refine wp_ret ?_
              refine ret_gen (rs := [.tmp 4]) (vs := [.bool false]) F540 (by rfl) ⟨_, _, rfl, RV.tmp rfl, rfl⟩ ⟨_, rfl, ⟨rfl, s513.drop.drop.drop.drop.drop.drop.drop.drop⟩⟩
          · replace H := ite_f hb501 H
            refine st_gskip F500 rfl rfl (look_b rfl hb501) Bool.noConfusion rfl rfl fun q541 F542 => ?_
            refine st_gskip F542 rfl rfl (look_b rfl hb501) Bool.noConfusion rfl rfl fun q543 F544 => ?_
            refine st_gskip F544 rfl rfl (look_b rfl hb501) Bool.noConfusion rfl rfl fun q545 F546 => ?_
            refine st_pr F546 (PR.op (ex_pick_f (ev_b rfl hb501) rfl) <| PR.op (ex_move rfl) <| PR.nil) fun q547 F548 => ?_
            refine st_gskip F548 rfl rfl rfl Bool.noConfusion rfl rfl fun q549 F550 => ?_
            refine st_gskip F550 rfl rfl rfl Bool.noConfusion rfl rfl fun q551 F552 => ?_
            refine st_gskip F552 rfl rfl rfl Bool.noConfusion rfl rfl fun q553 F554 => ?_
            refine st_pr F554 (PR.op (ex_pick_f rfl rfl) <| PR.op (ex_asg rfl) <| PR.nil) fun q555 F556 => ?_
            refine st_end ?_
            refine then_n ?_
            obtain rfl := some_ok H
            refine wp_ret ?_
            refine ret_gen (rs := [.tmp 4]) (vs := [.bool false]) F556 (by rfl) ⟨_, _, rfl, RV.tmp rfl, rfl⟩ ⟨_, rfl, ⟨rfl, s311.drop.drop.drop.drop.drop.drop.drop.drop⟩⟩
        · replace H := ite_f hb494 H
          refine st_gskip F493 rfl rfl (look_b rfl hb494) Bool.noConfusion rfl rfl fun q557 F558 => ?_
          refine st_gskip F558 rfl rfl (look_b rfl hb494) Bool.noConfusion rfl rfl fun q559 F560 => ?_
          refine st_pr F560 (PR.op (ex_pick_f (ev_b rfl hb494) rfl) <| PR.op (ex_move rfl) <| PR.nil) fun q561 F562 => ?_
          refine st_gskip F562 rfl rfl rfl Bool.noConfusion rfl rfl fun q563 F564 => ?_
          refine st_gskip F564 rfl rfl rfl Bool.noConfusion rfl rfl fun q565 F566 => ?_
          refine st_gskip F566 rfl rfl rfl Bool.noConfusion rfl rfl fun q567 F568 => ?_
          refine st_pr F568 (PR.op (ex_pick_f rfl rfl) <| PR.op (ex_move rfl) <| PR.nil) fun q569 F570 => ?_
          refine st_gskip F570 rfl rfl rfl Bool.noConfusion rfl rfl fun q571 F572 => ?_
          refine st_gskip F572 rfl rfl rfl Bool.noConfusion rfl rfl fun q573 F574 => ?_
          refine st_gskip F574 rfl rfl rfl Bool.noConfusion rfl rfl fun q575 F576 => ?_
          refine st_pr F576 (PR.op (ex_pick_f rfl rfl) <| PR.op (ex_asg rfl) <| PR.nil) fun q577 F578 => ?_
          refine st_end ?_
          refine then_n ?_
          obtain rfl := some_ok H
          refine wp_ret ?_
          refine ret_gen (rs := [.tmp 4]) (vs := [.bool false]) F578 (by rfl) ⟨_, _, rfl, RV.tmp rfl, rfl⟩ ⟨_, rfl, ⟨rfl, s311.drop.drop.drop.drop.drop.drop.drop.drop⟩⟩
      · replace H := ite_f hb487 H
        refine st_gskip F486 rfl rfl (look_b rfl hb487) Bool.noConfusion rfl rfl fun q579 F580 => ?_
        refine st_gskip F580 rfl rfl (look_b rfl hb487) Bool.noConfusion rfl rfl fun q581 F582 => ?_
        refine st_pr F582 (PR.op (ex_pick_f (ev_b rfl hb487) rfl) <| PR.op (ex_move rfl) <| PR.nil) fun q583 F584 => ?_
        refine st_gskip F584 rfl rfl rfl Bool.noConfusion rfl rfl fun q585 F586 => ?_
        refine st_gskip F586 rfl rfl rfl Bool.noConfusion rfl rfl fun q587 F588 => ?_
        refine st_pr F588 (PR.op (ex_pick_f rfl rfl) <| PR.op (ex_move rfl) <| PR.nil) fun q589 F590 => ?_
        refine st_gskip F590 rfl rfl rfl Bool.noConfusion rfl rfl fun q591 F592 => ?_
        refine st_gskip F592 rfl rfl rfl Bool.noConfusion rfl rfl fun q593 F594 => ?_
        refine st_gskip F594 rfl rfl rfl Bool.noConfusion rfl rfl fun q595 F596 => ?_
        refine st_pr F596 (PR.op (ex_pick_f rfl rfl) <| PR.op (ex_move rfl) <| PR.nil) fun q597 F598 => ?_
        refine st_gskip F598 rfl rfl rfl Bool.noConfusion rfl rfl fun q599 F600 => ?_
        refine st_gskip F600 rfl rfl rfl Bool.noConfusion rfl rfl fun q601 F602 => ?_
        refine st_gskip F602 rfl rfl rfl Bool.noConfusion rfl rfl fun q603 F604 => ?_
        refine st_pr F604 (PR.op (ex_pick_f rfl rfl) <| PR.op (ex_asg rfl) <| PR.nil) fun q605 F606 => ?_
        refine st_end ?_
        refine then_n ?_
        obtain rfl := some_ok H
        refine wp_ret ?_
        refine ret_gen (rs := [.tmp 4]) (vs := [.bool false]) F606 (by rfl) ⟨_, _, rfl, RV.tmp rfl, rfl⟩ ⟨_, rfl, ⟨rfl, s311.drop.drop.drop.drop.drop.drop.drop.drop⟩⟩
    · replace H := ite_f hb480 H
      refine st_gskip F479 rfl rfl (look_b rfl hb480) Bool.noConfusion rfl rfl fun q607 F608 => ?_
      refine st_gskip F608 rfl rfl (look_b rfl hb480) Bool.noConfusion rfl rfl fun q609 F610 => ?_
      refine st_pr F610 (PR.op (ex_pick_f (ev_b rfl hb480) rfl) <| PR.op (ex_move rfl) <| PR.nil) fun q611 F612 => ?_
      refine st_gskip F612 rfl rfl rfl Bool.noConfusion rfl rfl fun q613 F614 => ?_
      refine st_gskip F614 rfl rfl rfl Bool.noConfusion rfl rfl fun q615 F616 => ?_
      refine st_pr F616 (PR.op (ex_pick_f rfl rfl) <| PR.op (ex_move rfl) <| PR.nil) fun q617 F618 => ?_
      refine st_gskip F618 rfl rfl rfl Bool.noConfusion rfl rfl fun q619 F620 => ?_
      refine st_gskip F620 rfl rfl rfl Bool.noConfusion rfl rfl fun q621 F622 => ?_
      refine st_pr F622 (PR.op (ex_pick_f rfl rfl) <| PR.op (ex_move rfl) <| PR.nil) fun q623 F624 => ?_
      refine st_gskip F624 rfl rfl rfl Bool.noConfusion rfl rfl fun q625 F626 => ?_
      refine st_gskip F626 rfl rfl rfl Bool.noConfusion rfl rfl fun q627 F628 => ?_
      refine st_gskip F628 rfl rfl rfl Bool.noConfusion rfl rfl fun q629 F630 => ?_
      refine st_pr F630 (PR.op (ex_pick_f rfl rfl) <| PR.op (ex_move rfl) <| PR.nil) fun q631 F632 => ?_
      refine st_gskip F632 rfl rfl rfl Bool.noConfusion rfl rfl fun q633 F634 => ?_
      refine st_gskip F634 rfl rfl rfl Bool.noConfusion rfl rfl fun q635 F636 => ?_
      refine st_gskip F636 rfl rfl rfl Bool.noConfusion rfl rfl fun q637 F638 => ?_
      refine st_pr F638 (PR.op (ex_pick_f rfl rfl) <| PR.op (ex_asg rfl) <| PR.nil) fun q639 F640 => ?_
      refine st_end ?_
      refine then_n ?_
      obtain rfl := some_ok H
      refine wp_ret ?_
      refine ret_gen (rs := [.tmp 4]) (vs := [.bool false]) F640 (by rfl) ⟨_, _, rfl, RV.tmp rfl, rfl⟩ ⟨_, rfl, ⟨rfl, s311.drop.drop.drop.drop.drop.drop.drop.drop⟩⟩
end Go.Proofs.Ytpcdphfneidalaa
