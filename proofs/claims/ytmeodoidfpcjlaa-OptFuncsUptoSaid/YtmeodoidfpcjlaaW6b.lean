/- Walks, merged. -/
import Derived.Test.YtmeodoidfpcjlaaW6a
set_option linter.unusedVariables false
set_option linter.unusedSimpArgs false
namespace Go.Proofs.Ytmeodoidfpcjlaa
open Go Go.RowKit Go.Pv
-- The walk of proviso/opt.two.
theorem opt_two_c {w : World} {a0 : S_api_Instr} {a1 : S_api_Instr} {r : S_opt_item × Bool}  (H : opt_two a0 a1 = some r) :
  Calls Try.prog 99 #[.agg ⟨[.int .i64 a0.At, .int .u8 (a0.Op.toNat : Int), .int .i64 a0.A, .int .i64 a0.B]⟩, .agg ⟨[.int .i64 a1.At, .int .u8 (a1.Op.toNat : Int), .int .i64 a1.A, .int .i64 a1.B]⟩] w (Ret fun u_ w_ => u_ = .tuple ⟨[.agg ⟨[.int .i64 r.1.in_.At, .int .u8 (r.1.in_.Op.toNat : Int), .int .i64 r.1.in_.A, .int .i64 r.1.in_.B, .int .i64 r.1.to, .bool r.1.gone]⟩, .bool r.2]⟩ ∧ SL w [] w_ []) := by
 have s0 : SL w [] w [] := SL.init0 w
 refine call_enter Try.func99 rfl Try.ntmps99 (Nat.le_of_ble_eq_true rfl) (args := [.agg ⟨[.int .i64 a0.At, .int .u8 (a0.Op.toNat : Int), .int .i64 a0.A, .int .i64 a0.B]⟩, .agg ⟨[.int .i64 a1.At, .int .u8 (a1.Op.toNat : Int), .int .i64 a1.A, .int .i64 a1.B]⟩]) fun q0 F0 => ?_
 unfold opt_two at H
 refine wp_seq <| wp_reg ?_
 refine st_box F0 s0 rfl rfl rfl fun g21 w22 q23 F24 s25 => ?_
 refine st_box F24 s25 rfl rfl rfl fun g27 w28 q29 F30 s31 => ?_
 refine st_alloc F30 s31 Fx.zero121 rfl rfl fun g33 w34 q35 F36 s37 => ?_
 refine st_pr F36 (PR.op (ex_asg rfl) <| PR.nil) fun q39 F40 => ?_
 refine st_end <| then_n <| wp_seq ?_
 obtain ⟨o0, H0, R0⟩ := bind_ok H
 clear H
 refine wp_cutn (fun a w_ => ∃ p0 : Unit, o0 = .inr (p0) ∧ Fr a 55 [(2, .pointer (some ⟨g21, 0, none⟩)), (3, .pointer (some ⟨g27, 0, none⟩)), (4, .pointer (some ⟨g33, 0, none⟩))] ∧ SL w [] w_ [Blk g33 121 [.int .i64 0, .int .u8 0, .int .i64 0, .int .i64 0, .int .i64 0, .bool false], Blk g27 90 [.int .i64 a1.At, .int .u8 (a1.Op.toNat : Int), .int .i64 a1.A, .int .i64 a1.B], Blk g21 90 [.int .i64 a0.At, .int .u8 (a0.Op.toNat : Int), .int .i64 a0.A, .int .i64 a0.B]]) ?_ ?_
 ·have H := H0
  refine wp_block <| wp_seq <| wp_reg ?_
  refine st_pr F40 (PR.op (ex_fab Fx.fa90_1 rfl rfl) <| PR.op (ex_ld Fx.nag5 rfl (s37.blk_cell (.tail _ <| .tail _ <| .head _) rfl)) <| PR.op (ex_eq rfl rfl) <| PR.op (ex_move rfl) <| PR.nil) fun q1 F1 => ?_
  refine bool_split ((a0.Op.toNat : Int) == 1) (fun hb0 => ?_) (fun hb0 => ?_)
  ·replace H := ite_t hb0 H
   refine st_gop F1 rfl rfl (look_b rfl hb0) (ex_fab Fx.fa90_1 rfl rfl) rfl rfl fun q2 F2 => ?_
   refine st_gop F2 rfl rfl (look_b rfl hb0) (ex_ld Fx.nag5 rfl (s37.blk_cell (.tail _ <| .head _) rfl)) rfl rfl fun q3 F3 => ?_
   refine st_gop F3 rfl rfl (look_b rfl hb0) (ex_eq rfl rfl) rfl rfl fun q4 F4 => ?_
   refine st_pr F4 (PR.op (ex_pick_t (ev_b rfl hb0) rfl) <| PR.op (ex_asg rfl) <| PR.nil) fun q5 F5 => ?_
   refine st_end <| then_n ?_
   refine wp_if F5 rfl (fun hb1 => ?_) (fun hb1 => ?_)
   ·replace H := ite_t hb1 H
    refine wp_seq <| wp_reg ?_
    obtain ⟨x0, hx0, H⟩ := bind_ok H
    refine st_pr F5 (PR.op (ex_fab Fx.fa90_2 rfl rfl) <| PR.op (ex_ld Fx.nag3 rfl (s37.blk_cell (.tail _ <| .tail _ <| .head _) rfl)) <| PR.op (ex_neg rfl) <| PR.nil) fun q6 F6 => ?_
    refine st_call (args := [.tmp 17]) F6 Fx.fn115 rfl (opt_number_c (a0 := wr (0 - a0.A))   hx0) rfl fun v0 w0 q7 hS0 F7 => ?_
    obtain ⟨rfl, hq0⟩ := hS0
    have s1 := s37.add hq0
    have s2 := s1
    refine st_storea F7 s2 rfl rfl Fx.sz121 (one_cons rfl (one_cons rfl (one_cons rfl (one_cons rfl (one_cons rfl (one_cons rfl one_nil)))))) (Nat.le_of_ble_eq_true rfl) fun w1 q8 F8 s3 => ?_
    replace s3 : SL w [] w1 [Blk g33 121 [.int .i64 x0.in_.At, .int .u8 (x0.in_.Op.toNat : Int), .int .i64 x0.in_.A, .int .i64 x0.in_.B, .int .i64 x0.to, .bool x0.gone], Blk g27 90 [.int .i64 a1.At, .int .u8 (a1.Op.toNat : Int), .int .i64 a1.A, .int .i64 a1.B], Blk g21 90 [.int .i64 a0.At, .int .u8 (a0.Op.toNat : Int), .int .i64 a0.A, .int .i64 a0.B]] := s3
    refine st_pr F8 (PR.op (ex_asg rfl) <| PR.nil) fun q9 F9 => ?_
    refine st_end <| then_n ?_
    obtain rfl := some_ok H
    replace H := R0
    dsimp only at H
    obtain rfl := some_ok H
    refine wp_ret ?_
    refine blk_r <| then_r <| then_r ?_
    refine ret_gen (rs := [.cell 4 121, .tmp 5]) (vs := [.agg ⟨[.int .i64 x0.in_.At, .int .u8 (x0.in_.Op.toNat : Int), .int .i64 x0.in_.A, .int .i64 x0.in_.B, .int .i64 x0.to, .bool x0.gone]⟩, .bool true]) F9 (by rfl) ⟨_, _, rfl, RV.blk s3 (.head _) rfl Fx.agg121 rfl, _, _, rfl, RV.tmp rfl, rfl⟩ ⟨_, rfl, ⟨rfl, s3.drop.drop.drop⟩⟩
   ·replace H := ite_f hb1 H
    refine wp_seq <| wp_reg ?_
    refine st_pr F5 (PR.op (ex_fab Fx.fa90_1 rfl rfl) <| PR.op (ex_ld Fx.nag5 rfl (s37.blk_cell (.tail _ <| .tail _ <| .head _) rfl)) <| PR.op (ex_eq rfl rfl) <| PR.op (ex_move rfl) <| PR.nil) fun q10 F10 => ?_
    refine bool_split ((a0.Op.toNat : Int) == 2) (fun hb2 => ?_) (fun hb2 => ?_)
    ·replace H := ite_t hb2 H
     refine st_gop F10 rfl rfl (look_b rfl hb2) (ex_fab Fx.fa90_1 rfl rfl) rfl rfl fun q11 F11 => ?_
     refine st_gop F11 rfl rfl (look_b rfl hb2) (ex_ld Fx.nag5 rfl (s37.blk_cell (.tail _ <| .head _) rfl)) rfl rfl fun q12 F12 => ?_
     refine st_gop F12 rfl rfl (look_b rfl hb2) (ex_eq rfl rfl) rfl rfl fun q13 F13 => ?_
     refine st_pr F13 (PR.op (ex_pick_t (ev_b rfl hb2) rfl) <| PR.op (ex_asg rfl) <| PR.nil) fun q14 F14 => ?_
     refine st_end <| then_n ?_
     refine wp_if F14 rfl (fun hb3 => ?_) (fun hb3 => ?_)
     ·replace H := ite_t hb3 H
      refine wp_seq <| wp_reg ?_
      obtain ⟨x1, hx1, H⟩ := bind_ok H
      refine st_pr F14 (PR.op (ex_fab Fx.fa90_2 rfl rfl) <| PR.op (ex_ld Fx.nag3 rfl (s37.blk_cell (.tail _ <| .tail _ <| .head _) rfl)) <| PR.op (ex_eq rfl rfl) <| PR.nil) fun q15 F15 => ?_
      refine st_call (args := [.tmp 30]) F15 Fx.fn116 rfl (opt_truth_c (a0 := (a0.A == 0))   hx1) rfl fun v1 w2 q16 hS1 F16 => ?_
      obtain ⟨rfl, hq1⟩ := hS1
      have s4 := s37.add hq1
      have s5 := s4
      refine st_storea F16 s5 rfl rfl Fx.sz121 (one_cons rfl (one_cons rfl (one_cons rfl (one_cons rfl (one_cons rfl (one_cons rfl one_nil)))))) (Nat.le_of_ble_eq_true rfl) fun w3 q17 F17 s6 => ?_
      replace s6 : SL w [] w3 [Blk g33 121 [.int .i64 x1.in_.At, .int .u8 (x1.in_.Op.toNat : Int), .int .i64 x1.in_.A, .int .i64 x1.in_.B, .int .i64 x1.to, .bool x1.gone], Blk g27 90 [.int .i64 a1.At, .int .u8 (a1.Op.toNat : Int), .int .i64 a1.A, .int .i64 a1.B], Blk g21 90 [.int .i64 a0.At, .int .u8 (a0.Op.toNat : Int), .int .i64 a0.A, .int .i64 a0.B]] := s6
      refine st_pr F17 (PR.op (ex_asg rfl) <| PR.nil) fun q18 F18 => ?_
      refine st_end <| then_n ?_
      obtain rfl := some_ok H
      replace H := R0
      dsimp only at H
      obtain rfl := some_ok H
      refine wp_ret ?_
      refine blk_r <| then_r <| then_r ?_
      refine ret_gen (rs := [.cell 4 121, .tmp 5]) (vs := [.agg ⟨[.int .i64 x1.in_.At, .int .u8 (x1.in_.Op.toNat : Int), .int .i64 x1.in_.A, .int .i64 x1.in_.B, .int .i64 x1.to, .bool x1.gone]⟩, .bool true]) F18 (by rfl) ⟨_, _, rfl, RV.blk s6 (.head _) rfl Fx.agg121 rfl, _, _, rfl, RV.tmp rfl, rfl⟩ ⟨_, rfl, ⟨rfl, s6.drop.drop.drop⟩⟩
     ·replace H := ite_f hb3 H
      refine wp_seq <| wp_reg ?_
      refine st_pr F14 (PR.op (ex_fab Fx.fa90_1 rfl rfl) <| PR.op (ex_ld Fx.nag5 rfl (s37.blk_cell (.tail _ <| .tail _ <| .head _) rfl)) <| PR.op (ex_eq rfl rfl) <| PR.op (ex_move rfl) <| PR.nil) fun q19 F19 => ?_
      refine bool_split ((a0.Op.toNat : Int) == 17) (fun hb4 => ?_) (fun hb4 => ?_)
      ·replace H := ite_t hb4 H
       refine st_gop F19 rfl rfl (look_b rfl hb4) (ex_fab Fx.fa90_1 rfl rfl) rfl rfl fun q20 F20 => ?_
       refine st_gop F20 rfl rfl (look_b rfl hb4) (ex_ld Fx.nag5 rfl (s37.blk_cell (.tail _ <| .head _) rfl)) rfl rfl fun q21 F21 => ?_
       refine st_gop F21 rfl rfl (look_b rfl hb4) (ex_eq rfl rfl) rfl rfl fun q22 F22 => ?_
       refine st_pr F22 (PR.op (ex_pick_t (ev_b rfl hb4) rfl) <| PR.op (ex_asg rfl) <| PR.nil) fun q24 F23 => ?_
       refine st_end <| then_n ?_
       refine wp_if_f F23 (look_b rfl hb3) ?_
       refine wp_skip ?_
       refine blk_n ?_
       obtain rfl := some_ok H
       refine then_n ?_
       exact ⟨_, rfl, F23.sub ⟨rfl, rfl, rfl, trivial⟩, s37⟩
      ·replace H := ite_f hb4 H
       refine st_gskip F19 rfl rfl (look_b rfl hb4) Bool.noConfusion rfl rfl fun q25 F25 => ?_
       refine st_gskip F25 rfl rfl (look_b rfl hb4) Bool.noConfusion rfl rfl fun q26 F26 => ?_
       refine st_gskip F26 rfl rfl (look_b rfl hb4) Bool.noConfusion rfl rfl fun q27 F27 => ?_
       refine st_pr F27 (PR.op (ex_pick_f (ev_b rfl hb4) rfl) <| PR.op (ex_asg rfl) <| PR.nil) fun q28 F28 => ?_
       refine st_end <| then_n ?_
       refine wp_if_f F28 rfl ?_
       refine wp_skip ?_
       refine blk_n ?_
       obtain rfl := some_ok H
       refine then_n ?_
       exact ⟨_, rfl, F28.sub ⟨rfl, rfl, rfl, trivial⟩, s37⟩
    ·replace H := ite_f hb2 H
     refine st_gskip F10 rfl rfl (look_b rfl hb2) Bool.noConfusion rfl rfl fun q30 F29 => ?_
     refine st_gskip F29 rfl rfl (look_b rfl hb2) Bool.noConfusion rfl rfl fun q31 F31 => ?_
     refine st_gskip F31 rfl rfl (look_b rfl hb2) Bool.noConfusion rfl rfl fun q32 F32 => ?_
     refine st_pr F32 (PR.op (ex_pick_f (ev_b rfl hb2) rfl) <| PR.op (ex_asg rfl) <| PR.nil) fun q33 F33 => ?_
     refine st_end <| then_n ?_
     refine wp_if_f F33 rfl ?_
     refine wp_seq <| wp_reg ?_
     refine st_pr F33 (PR.op (ex_fab Fx.fa90_1 rfl rfl) <| PR.op (ex_ld Fx.nag5 rfl (s37.blk_cell (.tail _ <| .tail _ <| .head _) rfl)) <| PR.op (ex_eq rfl rfl) <| PR.op (ex_move rfl) <| PR.nil) fun q34 F34 => ?_
     refine bool_split ((a0.Op.toNat : Int) == 17) (fun hb5 => ?_) (fun hb5 => ?_)
     ·replace H := ite_t hb5 H
      refine st_gop F34 rfl rfl (look_b rfl hb5) (ex_fab Fx.fa90_1 rfl rfl) rfl rfl fun q36 F35 => ?_
      refine st_gop F35 rfl rfl (look_b rfl hb5) (ex_ld Fx.nag5 rfl (s37.blk_cell (.tail _ <| .head _) rfl)) rfl rfl fun q37 F37 => ?_
      refine st_gop F37 rfl rfl (look_b rfl hb5) (ex_eq rfl rfl) rfl rfl fun q38 F38 => ?_
      refine st_pr F38 (PR.op (ex_pick_t (ev_b rfl hb5) rfl) <| PR.op (ex_asg rfl) <| PR.nil) fun q40 F39 => ?_
      refine st_end <| then_n ?_
      refine wp_if F39 rfl (fun hb6 => ?_) (fun hb6 => ?_)
      ·replace H := ite_t hb6 H
       refine wp_seq <| wp_reg ?_
       refine st_pr F39 (PR.op (ex_build (vs := [.bool true]) Fx.zero121 Fx.pl121 rfl (cs := [.int .i64 0, .int .u8 0, .int .i64 0, .int .i64 0, .int .i64 0, .bool true]) (rfl)) <| PR.nil) fun q41 F41 => ?_
       have s7 := s37
       refine st_storea F41 s7 rfl rfl Fx.sz121 (one_cons rfl (one_cons rfl (one_cons rfl (one_cons rfl (one_cons rfl (one_cons rfl one_nil)))))) (Nat.le_of_ble_eq_true rfl) fun w4 q42 F42 s8 => ?_
       replace s8 : SL w [] w4 [Blk g33 121 [.int .i64 0, .int .u8 0, .int .i64 0, .int .i64 0, .int .i64 0, .bool true], Blk g27 90 [.int .i64 a1.At, .int .u8 (a1.Op.toNat : Int), .int .i64 a1.A, .int .i64 a1.B], Blk g21 90 [.int .i64 a0.At, .int .u8 (a0.Op.toNat : Int), .int .i64 a0.A, .int .i64 a0.B]] := s8
       refine st_pr F42 (PR.op (ex_asg rfl) <| PR.nil) fun q43 F43 => ?_
       refine st_end <| then_n ?_
       obtain rfl := some_ok H
       replace H := R0
       dsimp only at H
       obtain rfl := some_ok H
       refine wp_ret ?_
       refine blk_r <| then_r <| then_r ?_
       refine ret_gen (rs := [.cell 4 121, .tmp 5]) (vs := [.agg ⟨[.int .i64 0, .int .u8 0, .int .i64 0, .int .i64 0, .int .i64 0, .bool true]⟩, .bool true]) F43 (by rfl) ⟨_, _, rfl, RV.blk s8 (.head _) rfl Fx.agg121 rfl, _, _, rfl, RV.tmp rfl, rfl⟩ ⟨_, rfl, ⟨rfl, s8.drop.drop.drop⟩⟩
      ·replace H := ite_f hb6 H
       refine wp_skip ?_
       refine blk_n ?_
       obtain rfl := some_ok H
       refine then_n ?_
       exact ⟨_, rfl, F39.sub ⟨rfl, rfl, rfl, trivial⟩, s37⟩
     ·replace H := ite_f hb5 H
      refine st_gskip F34 rfl rfl (look_b rfl hb5) Bool.noConfusion rfl rfl fun q44 F44 => ?_
      refine st_gskip F44 rfl rfl (look_b rfl hb5) Bool.noConfusion rfl rfl fun q45 F45 => ?_
      refine st_gskip F45 rfl rfl (look_b rfl hb5) Bool.noConfusion rfl rfl fun q46 F46 => ?_
      refine st_pr F46 (PR.op (ex_pick_f (ev_b rfl hb5) rfl) <| PR.op (ex_asg rfl) <| PR.nil) fun q47 F47 => ?_
      refine st_end <| then_n ?_
      refine wp_if_f F47 rfl ?_
      refine wp_skip ?_
      refine blk_n ?_
      obtain rfl := some_ok H
      refine then_n ?_
      exact ⟨_, rfl, F47.sub ⟨rfl, rfl, rfl, trivial⟩, s37⟩
  ·replace H := ite_f hb0 H
   refine st_gskip F1 rfl rfl (look_b rfl hb0) Bool.noConfusion rfl rfl fun q48 F48 => ?_
   refine st_gskip F48 rfl rfl (look_b rfl hb0) Bool.noConfusion rfl rfl fun q49 F49 => ?_
   refine st_gskip F49 rfl rfl (look_b rfl hb0) Bool.noConfusion rfl rfl fun q50 F50 => ?_
   refine st_pr F50 (PR.op (ex_pick_f (ev_b rfl hb0) rfl) <| PR.op (ex_asg rfl) <| PR.nil) fun q51 F51 => ?_
   refine st_end <| then_n ?_
   refine wp_if_f F51 rfl ?_
   refine wp_seq <| wp_reg ?_
   refine st_pr F51 (PR.op (ex_fab Fx.fa90_1 rfl rfl) <| PR.op (ex_ld Fx.nag5 rfl (s37.blk_cell (.tail _ <| .tail _ <| .head _) rfl)) <| PR.op (ex_eq rfl rfl) <| PR.op (ex_move rfl) <| PR.nil) fun q52 F52 => ?_
   refine bool_split ((a0.Op.toNat : Int) == 2) (fun hb7 => ?_) (fun hb7 => ?_)
   ·replace H := ite_t hb7 H
    refine st_gop F52 rfl rfl (look_b rfl hb7) (ex_fab Fx.fa90_1 rfl rfl) rfl rfl fun q53 F53 => ?_
    refine st_gop F53 rfl rfl (look_b rfl hb7) (ex_ld Fx.nag5 rfl (s37.blk_cell (.tail _ <| .head _) rfl)) rfl rfl fun q54 F54 => ?_
    refine st_gop F54 rfl rfl (look_b rfl hb7) (ex_eq rfl rfl) rfl rfl fun q55 F55 => ?_
    refine st_pr F55 (PR.op (ex_pick_t (ev_b rfl hb7) rfl) <| PR.op (ex_asg rfl) <| PR.nil) fun q56 F56 => ?_
    refine st_end <| then_n ?_
    refine wp_if F56 rfl (fun hb8 => ?_) (fun hb8 => ?_)
    ·replace H := ite_t hb8 H
     refine wp_seq <| wp_reg ?_
     obtain ⟨x2, hx2, H⟩ := bind_ok H
     refine st_pr F56 (PR.op (ex_fab Fx.fa90_2 rfl rfl) <| PR.op (ex_ld Fx.nag3 rfl (s37.blk_cell (.tail _ <| .tail _ <| .head _) rfl)) <| PR.op (ex_eq rfl rfl) <| PR.nil) fun q57 F57 => ?_
     refine st_call (args := [.tmp 30]) F57 Fx.fn116 rfl (opt_truth_c (a0 := (a0.A == 0))   hx2) rfl fun v2 w5 q58 hS2 F58 => ?_
     obtain ⟨rfl, hq2⟩ := hS2
     have s9 := s37.add hq2
     have s10 := s9
     refine st_storea F58 s10 rfl rfl Fx.sz121 (one_cons rfl (one_cons rfl (one_cons rfl (one_cons rfl (one_cons rfl (one_cons rfl one_nil)))))) (Nat.le_of_ble_eq_true rfl) fun w6 q59 F59 s11 => ?_
     replace s11 : SL w [] w6 [Blk g33 121 [.int .i64 x2.in_.At, .int .u8 (x2.in_.Op.toNat : Int), .int .i64 x2.in_.A, .int .i64 x2.in_.B, .int .i64 x2.to, .bool x2.gone], Blk g27 90 [.int .i64 a1.At, .int .u8 (a1.Op.toNat : Int), .int .i64 a1.A, .int .i64 a1.B], Blk g21 90 [.int .i64 a0.At, .int .u8 (a0.Op.toNat : Int), .int .i64 a0.A, .int .i64 a0.B]] := s11
     refine st_pr F59 (PR.op (ex_asg rfl) <| PR.nil) fun q60 F60 => ?_
     refine st_end <| then_n ?_
     obtain rfl := some_ok H
     replace H := R0
     dsimp only at H
     obtain rfl := some_ok H
     refine wp_ret ?_
     refine blk_r <| then_r <| then_r ?_
     refine ret_gen (rs := [.cell 4 121, .tmp 5]) (vs := [.agg ⟨[.int .i64 x2.in_.At, .int .u8 (x2.in_.Op.toNat : Int), .int .i64 x2.in_.A, .int .i64 x2.in_.B, .int .i64 x2.to, .bool x2.gone]⟩, .bool true]) F60 (by rfl) ⟨_, _, rfl, RV.blk s11 (.head _) rfl Fx.agg121 rfl, _, _, rfl, RV.tmp rfl, rfl⟩ ⟨_, rfl, ⟨rfl, s11.drop.drop.drop⟩⟩
    ·replace H := ite_f hb8 H
     refine wp_seq <| wp_reg ?_
     refine st_pr F56 (PR.op (ex_fab Fx.fa90_1 rfl rfl) <| PR.op (ex_ld Fx.nag5 rfl (s37.blk_cell (.tail _ <| .tail _ <| .head _) rfl)) <| PR.op (ex_eq rfl rfl) <| PR.op (ex_move rfl) <| PR.nil) fun q61 F61 => ?_
     refine bool_split ((a0.Op.toNat : Int) == 17) (fun hb9 => ?_) (fun hb9 => ?_)
     ·replace H := ite_t hb9 H
      refine st_gop F61 rfl rfl (look_b rfl hb9) (ex_fab Fx.fa90_1 rfl rfl) rfl rfl fun q62 F62 => ?_
      refine st_gop F62 rfl rfl (look_b rfl hb9) (ex_ld Fx.nag5 rfl (s37.blk_cell (.tail _ <| .head _) rfl)) rfl rfl fun q63 F63 => ?_
      refine st_gop F63 rfl rfl (look_b rfl hb9) (ex_eq rfl rfl) rfl rfl fun q64 F64 => ?_
      refine st_pr F64 (PR.op (ex_pick_t (ev_b rfl hb9) rfl) <| PR.op (ex_asg rfl) <| PR.nil) fun q65 F65 => ?_
      refine st_end <| then_n ?_
      refine wp_if_f F65 (look_b rfl hb8) ?_
      refine wp_skip ?_
      refine blk_n ?_
      obtain rfl := some_ok H
      refine then_n ?_
      exact ⟨_, rfl, F65.sub ⟨rfl, rfl, rfl, trivial⟩, s37⟩
     ·replace H := ite_f hb9 H
      refine st_gskip F61 rfl rfl (look_b rfl hb9) Bool.noConfusion rfl rfl fun q66 F66 => ?_
      refine st_gskip F66 rfl rfl (look_b rfl hb9) Bool.noConfusion rfl rfl fun q67 F67 => ?_
      refine st_gskip F67 rfl rfl (look_b rfl hb9) Bool.noConfusion rfl rfl fun q68 F68 => ?_
      refine st_pr F68 (PR.op (ex_pick_f (ev_b rfl hb9) rfl) <| PR.op (ex_asg rfl) <| PR.nil) fun q69 F69 => ?_
      refine st_end <| then_n ?_
      refine wp_if_f F69 rfl ?_
      refine wp_skip ?_
      refine blk_n ?_
      obtain rfl := some_ok H
      refine then_n ?_
      exact ⟨_, rfl, F69.sub ⟨rfl, rfl, rfl, trivial⟩, s37⟩
   ·replace H := ite_f hb7 H
    refine st_gskip F52 rfl rfl (look_b rfl hb7) Bool.noConfusion rfl rfl fun q70 F70 => ?_
    refine st_gskip F70 rfl rfl (look_b rfl hb7) Bool.noConfusion rfl rfl fun q71 F71 => ?_
    refine st_gskip F71 rfl rfl (look_b rfl hb7) Bool.noConfusion rfl rfl fun q72 F72 => ?_
    refine st_pr F72 (PR.op (ex_pick_f (ev_b rfl hb7) rfl) <| PR.op (ex_asg rfl) <| PR.nil) fun q73 F73 => ?_
    refine st_end <| then_n ?_
    refine wp_if_f F73 rfl ?_
    refine wp_seq <| wp_reg ?_
    refine st_pr F73 (PR.op (ex_fab Fx.fa90_1 rfl rfl) <| PR.op (ex_ld Fx.nag5 rfl (s37.blk_cell (.tail _ <| .tail _ <| .head _) rfl)) <| PR.op (ex_eq rfl rfl) <| PR.op (ex_move rfl) <| PR.nil) fun q74 F74 => ?_
    refine bool_split ((a0.Op.toNat : Int) == 17) (fun hb10 => ?_) (fun hb10 => ?_)
    ·replace H := ite_t hb10 H
     refine st_gop F74 rfl rfl (look_b rfl hb10) (ex_fab Fx.fa90_1 rfl rfl) rfl rfl fun q75 F75 => ?_
     refine st_gop F75 rfl rfl (look_b rfl hb10) (ex_ld Fx.nag5 rfl (s37.blk_cell (.tail _ <| .head _) rfl)) rfl rfl fun q76 F76 => ?_
     refine st_gop F76 rfl rfl (look_b rfl hb10) (ex_eq rfl rfl) rfl rfl fun q77 F77 => ?_
     refine st_pr F77 (PR.op (ex_pick_t (ev_b rfl hb10) rfl) <| PR.op (ex_asg rfl) <| PR.nil) fun q78 F78 => ?_
     refine st_end <| then_n ?_
     refine wp_if F78 rfl (fun hb11 => ?_) (fun hb11 => ?_)
     ·replace H := ite_t hb11 H
      refine wp_seq <| wp_reg ?_
      refine st_pr F78 (PR.op (ex_build (vs := [.bool true]) Fx.zero121 Fx.pl121 rfl (cs := [.int .i64 0, .int .u8 0, .int .i64 0, .int .i64 0, .int .i64 0, .bool true]) (rfl)) <| PR.nil) fun q79 F79 => ?_
      have s12 := s37
      refine st_storea F79 s12 rfl rfl Fx.sz121 (one_cons rfl (one_cons rfl (one_cons rfl (one_cons rfl (one_cons rfl (one_cons rfl one_nil)))))) (Nat.le_of_ble_eq_true rfl) fun w7 q80 F80 s13 => ?_
      replace s13 : SL w [] w7 [Blk g33 121 [.int .i64 0, .int .u8 0, .int .i64 0, .int .i64 0, .int .i64 0, .bool true], Blk g27 90 [.int .i64 a1.At, .int .u8 (a1.Op.toNat : Int), .int .i64 a1.A, .int .i64 a1.B], Blk g21 90 [.int .i64 a0.At, .int .u8 (a0.Op.toNat : Int), .int .i64 a0.A, .int .i64 a0.B]] := s13
      refine st_pr F80 (PR.op (ex_asg rfl) <| PR.nil) fun q81 F81 => ?_
      refine st_end <| then_n ?_
      obtain rfl := some_ok H
      replace H := R0
      dsimp only at H
      obtain rfl := some_ok H
      refine wp_ret ?_
      refine blk_r <| then_r <| then_r ?_
      refine ret_gen (rs := [.cell 4 121, .tmp 5]) (vs := [.agg ⟨[.int .i64 0, .int .u8 0, .int .i64 0, .int .i64 0, .int .i64 0, .bool true]⟩, .bool true]) F81 (by rfl) ⟨_, _, rfl, RV.blk s13 (.head _) rfl Fx.agg121 rfl, _, _, rfl, RV.tmp rfl, rfl⟩ ⟨_, rfl, ⟨rfl, s13.drop.drop.drop⟩⟩
     ·replace H := ite_f hb11 H
      refine wp_skip ?_
      refine blk_n ?_
      obtain rfl := some_ok H
      refine then_n ?_
      exact ⟨_, rfl, F78.sub ⟨rfl, rfl, rfl, trivial⟩, s37⟩
    ·replace H := ite_f hb10 H
     refine st_gskip F74 rfl rfl (look_b rfl hb10) Bool.noConfusion rfl rfl fun q82 F82 => ?_
     refine st_gskip F82 rfl rfl (look_b rfl hb10) Bool.noConfusion rfl rfl fun q83 F83 => ?_
     refine st_gskip F83 rfl rfl (look_b rfl hb10) Bool.noConfusion rfl rfl fun q84 F84 => ?_
     refine st_pr F84 (PR.op (ex_pick_f (ev_b rfl hb10) rfl) <| PR.op (ex_asg rfl) <| PR.nil) fun q85 F85 => ?_
     refine st_end <| then_n ?_
     refine wp_if_f F85 rfl ?_
     refine wp_skip ?_
     refine blk_n ?_
     obtain rfl := some_ok H
     refine then_n ?_
     exact ⟨_, rfl, F85.sub ⟨rfl, rfl, rfl, trivial⟩, s37⟩
 ·intro q86 w8 hJ
  obtain ⟨p0, rfl, F86, s14⟩ := hJ
  have H := R0
  clear R0 H0
  dsimp only at H
  refine then_n <| wp_seq <| wp_seq <| wp_reg ?_
  refine st_pr F86 (PR.op (ex_fab Fx.fa90_1 rfl rfl) <| PR.op (ex_ld Fx.nag5 rfl (s14.blk_cell (.tail _ <| .head _) rfl)) <| PR.op (ex_ne rfl rfl) <| PR.nil) fun q87 F87 => ?_
  refine st_end <| then_n ?_
  refine wp_if F87 rfl (fun hb12 => ?_) (fun hb12 => ?_)
  ·replace H := ite_t hb12 H
   refine wp_seq <| wp_reg ?_
   refine st_pr F87 (PR.op (ex_build (vs := []) Fx.zero121 Fx.pl121 rfl (cs := [.int .i64 0, .int .u8 0, .int .i64 0, .int .i64 0, .int .i64 0, .bool false]) (rfl)) <| PR.nil) fun q88 F88 => ?_
   have s15 := s14
   refine st_storea F88 s15 rfl rfl Fx.sz121 (one_cons rfl (one_cons rfl (one_cons rfl (one_cons rfl (one_cons rfl (one_cons rfl one_nil)))))) (Nat.le_of_ble_eq_true rfl) fun w9 q89 F89 s16 => ?_
   replace s16 : SL w [] w9 [Blk g33 121 [.int .i64 0, .int .u8 0, .int .i64 0, .int .i64 0, .int .i64 0, .bool false], Blk g27 90 [.int .i64 a1.At, .int .u8 (a1.Op.toNat : Int), .int .i64 a1.A, .int .i64 a1.B], Blk g21 90 [.int .i64 a0.At, .int .u8 (a0.Op.toNat : Int), .int .i64 a0.A, .int .i64 a0.B]] := s16
   refine st_pr F89 (PR.op (ex_asg rfl) <| PR.nil) fun q90 F90 => ?_
   refine st_end <| then_n ?_
   obtain rfl := some_ok H
   refine wp_ret ?_
   refine then_r ?_
   refine ret_gen (rs := [.cell 4 121, .tmp 5]) (vs := [.agg ⟨[.int .i64 0, .int .u8 0, .int .i64 0, .int .i64 0, .int .i64 0, .bool false]⟩, .bool false]) F90 (by rfl) ⟨_, _, rfl, RV.blk s16 (.head _) rfl Fx.agg121 rfl, _, _, rfl, RV.tmp rfl, rfl⟩ ⟨_, rfl, ⟨rfl, s16.drop.drop.drop⟩⟩
  ·replace H := ite_f hb12 H
   refine wp_skip <| then_n <| wp_seq <| wp_seq <| wp_reg ?_
   refine st_pr F87 (PR.op (ex_fab Fx.fa90_1 rfl rfl) <| PR.op (ex_ld Fx.nag5 rfl (s14.blk_cell (.tail _ <| .tail _ <| .head _) rfl)) <| PR.nil) fun q91 F91 => ?_
   refine st_end <| then_n <| wp_block <| wp_seq ?_
   obtain ⟨o1, H1, R1⟩ := bind_ok H
   clear H
   refine wp_cutn (fun a w_ => Fr a 55 [(4, .pointer (some ⟨g33, 0, none⟩)), (48, .bool o1)] ∧ SL w [] w_ [Blk g33 121 [.int .i64 0, .int .u8 0, .int .i64 0, .int .i64 0, .int .i64 0, .bool false]]) ?_ ?_
   ·have H := H1
    refine wp_seq <| wp_reg ?_
    refine st_pr F91 (PR.op (ex_eq rfl rfl) <| PR.op (ex_asg rfl) <| PR.nil) fun q92 F92 => ?_
    refine st_end <| then_n ?_
    refine wp_if F92 rfl (fun hb13 => ?_) (fun hb13 => ?_)
    ·replace H := ite_t hb13 H
     refine wp_skip ?_
     obtain rfl := some_ok H
     refine then_n ?_
     exact ⟨F92.sub ⟨rfl, rfl, trivial⟩, s14.f1.drop.f1.drop⟩
    ·replace H := ite_f hb13 H
     refine wp_seq <| wp_reg ?_
     refine st_pr F92 (PR.op (ex_eq rfl rfl) <| PR.op (ex_asg rfl) <| PR.nil) fun q93 F93 => ?_
     refine st_end <| then_n ?_
     refine wp_if F93 rfl (fun hb14 => ?_) (fun hb14 => ?_)
     ·replace H := ite_t hb14 H
      refine wp_skip ?_
      obtain rfl := some_ok H
      refine then_n ?_
      exact ⟨F93.sub ⟨rfl, rfl, trivial⟩, s14.f1.drop.f1.drop⟩
     ·replace H := ite_f hb14 H
      refine wp_seq <| wp_reg ?_
      refine st_pr F93 (PR.op (ex_eq rfl rfl) <| PR.op (ex_asg rfl) <| PR.nil) fun q94 F94 => ?_
      refine st_end <| then_n ?_
      refine wp_if F94 rfl (fun hb15 => ?_) (fun hb15 => ?_)
      ·replace H := ite_t hb15 H
       refine wp_skip ?_
       obtain rfl := some_ok H
       refine then_n ?_
       exact ⟨F94.sub ⟨rfl, rfl, trivial⟩, s14.f1.drop.f1.drop⟩
      ·replace H := ite_f hb15 H
       refine wp_reg ?_
       refine st_pr F94 (PR.op (ex_eq rfl rfl) <| PR.op (ex_asg rfl) <| PR.nil) fun q95 F95 => ?_
       refine st_end ?_
       obtain rfl := some_ok H
       refine then_n ?_
       exact ⟨F95.sub ⟨rfl, rfl, trivial⟩, s14.f1.drop.f1.drop⟩
   ·intro q96 w10 hJ
    obtain ⟨F96, s17⟩ := hJ
    have H := R1
    clear R1 H1
    refine then_n ?_
    refine wp_if F96 rfl (fun hb16 => ?_) (fun hb16 => ?_)
    ·replace H := ite_t hb16 H
     refine wp_seq <| wp_reg ?_
     refine st_pr F96 (PR.op (ex_build (vs := [.bool true]) Fx.zero121 Fx.pl121 rfl (cs := [.int .i64 0, .int .u8 0, .int .i64 0, .int .i64 0, .int .i64 0, .bool true]) (rfl)) <| PR.nil) fun q97 F97 => ?_
     have s18 := s17
     refine st_storea F97 s18 rfl rfl Fx.sz121 (one_cons rfl (one_cons rfl (one_cons rfl (one_cons rfl (one_cons rfl (one_cons rfl one_nil)))))) (Nat.le_of_ble_eq_true rfl) fun w11 q98 F98 s19 => ?_
     replace s19 : SL w [] w11 [Blk g33 121 [.int .i64 0, .int .u8 0, .int .i64 0, .int .i64 0, .int .i64 0, .bool true]] := s19
     refine st_pr F98 (PR.op (ex_asg rfl) <| PR.nil) fun q99 F99 => ?_
     refine st_end <| then_n ?_
     obtain rfl := some_ok H
     refine wp_ret ?_
     refine blk_r <| then_r ?_
     refine ret_gen (rs := [.cell 4 121, .tmp 5]) (vs := [.agg ⟨[.int .i64 0, .int .u8 0, .int .i64 0, .int .i64 0, .int .i64 0, .bool true]⟩, .bool true]) F99 (by rfl) ⟨_, _, rfl, RV.blk s19 (.head _) rfl Fx.agg121 rfl, _, _, rfl, RV.tmp rfl, rfl⟩ ⟨_, rfl, ⟨rfl, s19.drop⟩⟩
    ·replace H := ite_f hb16 H
     refine wp_skip ?_
     refine blk_n ?_
     refine then_n <| wp_seq <| wp_reg ?_
     refine st_pr F96 (PR.op (ex_build (vs := []) Fx.zero121 Fx.pl121 rfl (cs := [.int .i64 0, .int .u8 0, .int .i64 0, .int .i64 0, .int .i64 0, .bool false]) (rfl)) <| PR.nil) fun q100 F100 => ?_
     have s20 := s17
     refine st_storea F100 s20 rfl rfl Fx.sz121 (one_cons rfl (one_cons rfl (one_cons rfl (one_cons rfl (one_cons rfl (one_cons rfl one_nil)))))) (Nat.le_of_ble_eq_true rfl) fun w12 q101 F101 s21 => ?_
     replace s21 : SL w [] w12 [Blk g33 121 [.int .i64 0, .int .u8 0, .int .i64 0, .int .i64 0, .int .i64 0, .bool false]] := s21
     refine st_pr F101 (PR.op (ex_asg rfl) <| PR.nil) fun q102 F102 => ?_
     refine st_end <| then_n ?_
     obtain rfl := some_ok H
     refine wp_ret ?_
     refine ret_gen (rs := [.cell 4 121, .tmp 5]) (vs := [.agg ⟨[.int .i64 0, .int .u8 0, .int .i64 0, .int .i64 0, .int .i64 0, .bool false]⟩, .bool false]) F102 (by rfl) ⟨_, _, rfl, RV.blk s21 (.head _) rfl Fx.agg121 rfl, _, _, rfl, RV.tmp rfl, rfl⟩ ⟨_, rfl, ⟨rfl, s21.drop⟩⟩
-- The walk of proviso/opt.constants.
theorem opt_constants_c {w : World} {FF : List Nat} {v0 : Value} {a0 : List S_opt_item} {r : (List S_opt_item) × Bool} (hst : Star [Sl T_opt_item v0 a0] w FF)  (H : opt_constants a0 = some r) :
  Calls Try.prog 66 #[v0] w (Ret fun u_ w_ => ∃ u0 : Value, u_ = .tuple ⟨[u0, .bool r.2]⟩ ∧ SL w FF w_ [Sl T_opt_item u0 r.1]) := by
 have s0 : SL w FF w [Sl T_opt_item v0 a0] := SL.init w FF hst
 refine call_enter Try.func66 rfl Try.ntmps66 (Nat.le_of_ble_eq_true rfl) (args := [v0]) fun q0 F0 => ?_
 unfold opt_constants at H
 refine wp_seq <| wp_reg ?_
 refine st_box F0 s0 rfl (form_cells (formL (s0.own_rd (.head _)))) rfl fun g9 w10 q11 F12 s13 => ?_
 refine st_pr F12 (PR.op (ex_asg rfl) <| PR.op (ex_asg rfl) <| PR.nil) fun q15 F16 => ?_
 refine st_end <| then_n <| wp_seq <| wp_reg ?_
 obtain ⟨x41, hx42, H⟩ := bind_ok H
 refine st_pr F16 (PR.op (ex_ld Fx.nag94 rfl (s13.blk_cell (.head _) rfl)) <| PR.nil) fun q43 F44 => ?_
 refine st_call (args := [.tmp 12]) F44 Fx.fn96 rfl (opt_led_c (a0 := a0)  (s13.rd0 (.tail _ <| .head _)) hx42) rfl fun v45 w46 q47 hS49 F48 => ?_
 obtain ⟨_, rfl, hq51⟩ := hS49
 have s50 := s13.add hq51
 refine st_alloc F48 s50 Fx.zero93 rfl rfl fun g54 w55 q56 F57 s58 => ?_
 have s64 := s58
 refine st_store F57 s64 rfl rfl Fx.sz93 (form_cells (formL (s64.own_rd (.tail _ <| .head _)))) (form_one (formL (s64.own_rd (.tail _ <| .head _)))) rfl fun w60 q61 F62 s63 => ?_
 replace s63 : SL w FF w60 [Blk g54 93 [v45], Sl Ty.bool v45 x41, Blk g9 94 [v0], Sl T_opt_item v0 a0] := s63
 refine st_end <| then_n <| wp_seq <| wp_reg ?_
 refine st_pr F62 (PR.op (ex_asg rfl) <| PR.nil) fun q67 F68 => ?_
 refine st_end <| then_n <| wp_seq <| wp_reg ?_
 refine st_pr F68 (PR.op (ex_mkfunc (cs := [.tmp 1, .tmp 4]) (vs := [.pointer (some ⟨g9, 0, none⟩), .pointer (some ⟨g54, 0, none⟩)]) rfl) <| PR.op (ex_asg rfl) <| PR.nil) fun q71 F72 => ?_
 refine st_end <| then_n <| wp_seq <| wp_seq <| wp_reg ?_
 refine st_pr F72 (PR.op (ex_asg rfl) <| PR.nil) fun q1 F1 => ?_
 refine st_end <| then_n ?_
 obtain ⟨o0, H0, R0⟩ := bind_ok H
 clear H
 refine wp_cutn (fun a w_ => ∃ v1 : Value, Fr a 98 [(1, .pointer (some ⟨g9, 0, none⟩)), (5, .bool o0.2)] ∧ SL w FF w_ [Sl Ty.bool v45 x41, Blk g9 94 [v1], Sl T_opt_item v1 o0.1]) ?_ ?_
 ·have H := H0
  refine wp_block ?_
  refine wp_lp (opt_constants_b0 x41) (fun s1 a w_ => ∃ v2 : Value, Fr a 98 [(1, .pointer (some ⟨g9, 0, none⟩)), (5, .bool s1.2.1), (6, clo 97 [.pointer (some ⟨g9, 0, none⟩), .pointer (some ⟨g54, 0, none⟩)]), (7, .int .i64 s1.2.2)] ∧ SL w FF w_ [Blk g54 93 [v45], Sl Ty.bool v45 x41, Blk g9 94 [v2], Sl T_opt_item v2 s1.1]) H ?_ ?_
  ·exact ⟨v0, F1.sub ⟨rfl, rfl, rfl, rfl, trivial⟩, s63⟩
  ·intro s1 q2 w0 hI0 o1 H hr
   obtain ⟨v2, F2, s2⟩ := hI0
   replace H : opt_constants_b0 x41 s1 = some o1 := H
   unfold opt_constants_b0 at H
   refine wp_seq <| wp_seq <| wp_reg ?_
   refine st_pr F2 (PR.op (ex_move rfl) <| PR.op (ex_ld Fx.nag94 rfl (s2.blk_cell (.tail _ <| .tail _ <| .head _) rfl)) <| PR.op (ex_len rfl Try.underlying94 (formL (s2.own_rd (.tail _ <| .tail _ <| .tail _ <| .head _)))) <| PR.op (ex_lt rfl rfl) <| PR.nil) fun q3 F3 => ?_
   refine st_end <| then_n ?_
   refine wp_if F3 rfl (fun hb0 => ?_) (fun hb0 => ?_)
   ·replace H := ite_t hb0 H
    refine wp_skip <| then_n <| wp_seq ?_
    obtain ⟨o2, H1, R1⟩ := bind_ok H
    clear H
    refine wp_cutn (fun a w_ => ∃ v3 : Value, Fr a 98 [(1, .pointer (some ⟨g9, 0, none⟩)), (5, .bool o2.2.1), (6, clo 97 [.pointer (some ⟨g9, 0, none⟩), .pointer (some ⟨g54, 0, none⟩)]), (7, .int .i64 o2.2.2)] ∧ SL w FF w_ [Blk g9 94 [v3], Blk g54 93 [v45], Sl Ty.bool v45 x41, Sl T_opt_item v3 o2.1]) ?_ ?_
    ·have H := H1
     refine wp_block <| wp_seq <| wp_seq <| wp_reg ?_
     obtain ⟨x0, hx0, H⟩ := bind_ok H
     refine st_pr F3 (PR.op (ex_move rfl) <| PR.op (ex_move rfl) <| PR.op (ex_add rfl rfl) <| PR.nil) fun q4 F4 => ?_
     have s3 := s2.f1.f1.f3.f3
     obtain ⟨G0, hs0, hF0, hG0, hc0⟩ := SL.open_ (ps := [Blk g9 94 [v2], Sl T_opt_item v2 s1.1, Blk g54 93 [v45], Sl Ty.bool v45 x41]) (rest := []) s3
     refine st_callf (args := [.tmp 23]) F4 Fx.fn97 rfl rfl (opt_constants_1_s2_c (a0 := wr (s1.2.2 + 1)) (a1 := s1.1) (a2 := x41) hs0  hx0) rfl fun v4 w1 q5 hS0 F5 => ?_
     obtain ⟨rfl, hq0⟩ := hS0
     have s4 := hc0 _ _ hq0
     refine st_pr F5 (PR.op (ex_not rfl) <| PR.nil) fun q6 F6 => ?_
     refine st_end <| then_n ?_
     refine wp_if F6 rfl (fun hb1 => ?_) (fun hb1 => ?_)
     ·replace H := ite_t hb1 H
      refine wp_exit <| then_x <| blk_hit ?_
      obtain rfl := some_ok H
      refine then_n ?_
      exact ⟨v2, F6.sub ⟨rfl, rfl, rfl, rfl, trivial⟩, s4.f1.f3.f3.f3⟩
     ·replace H := ite_f hb1 H
      refine wp_skip <| then_n <| wp_seq ?_
      obtain ⟨o3, H2, R2⟩ := bind_ok H
      clear H
      refine wp_cutn (fun a w_ => ∃ p0 : Unit, o3 = .inr (p0) ∧ Fr a 98 [(1, .pointer (some ⟨g9, 0, none⟩)), (5, .bool s1.2.1), (6, clo 97 [.pointer (some ⟨g9, 0, none⟩), .pointer (some ⟨g54, 0, none⟩)]), (7, .int .i64 s1.2.2)] ∧ SL w FF w_ [Blk g9 94 [v2], Sl T_opt_item v2 s1.1, Blk g54 93 [v45], Sl Ty.bool v45 x41]) ?_ ?_
      ·have H := H2
       refine wp_seq <| wp_reg ?_
       obtain ⟨x1, hx1, H⟩ := bind_ok H
       refine st_pr F6 (PR.op (ex_move rfl) <| PR.op (ex_move rfl) <| PR.op (ex_add rfl rfl) <| PR.nil) fun q7 F7 => ?_
       have s5 := s4.f3.f3.f3.f3
       obtain ⟨G1, hs1, hF1, hG1, hc1⟩ := SL.open_ (ps := [Blk g9 94 [v2], Sl T_opt_item v2 s1.1, Blk g54 93 [v45], Sl Ty.bool v45 x41]) (rest := []) s5
       refine st_callf (args := [.tmp 28]) F7 Fx.fn97 rfl rfl (opt_constants_1_s2_c (a0 := wr (s1.2.2 + 2)) (a1 := s1.1) (a2 := x41) hs1  hx1) rfl fun v5 w2 q8 hS1 F8 => ?_
       obtain ⟨rfl, hq1⟩ := hS1
       have s6 := hc1 _ _ hq1
       refine st_end <| then_n ?_
       refine wp_if F8 rfl (fun hb2 => ?_) (fun hb2 => ?_)
       ·replace H := ite_t hb2 H
        refine wp_seq ?_
        obtain ⟨o4, H3, R3⟩ := bind_ok H
        clear H
        refine wp_cutn (fun a w_ => ∃ g0 : Nat, Fr a 98 [(1, .pointer (some ⟨g9, 0, none⟩)), (5, .bool s1.2.1), (6, clo 97 [.pointer (some ⟨g9, 0, none⟩), .pointer (some ⟨g54, 0, none⟩)]), (7, .int .i64 s1.2.2), (8, .pointer (some ⟨g0, 0, none⟩)), (9, .bool o4.2.2.2.2.2.2)] ∧ SL w FF w_ [Blk g9 94 [v2], Sl T_opt_item v2 s1.1, Blk g54 93 [v45], Sl Ty.bool v45 x41, Blk g0 121 [.int .i64 o4.1, .int .u8 (o4.2.1.toNat : Int), .int .i64 o4.2.2.1, .int .i64 o4.2.2.2.1, .int .i64 o4.2.2.2.2.1, .bool o4.2.2.2.2.2.1]]) ?_ ?_
        ·have H := H3
         obtain ⟨x2, hx2, H⟩ := bind_ok H
         obtain ⟨x3, hx3, H⟩ := bind_ok H
         obtain ⟨x4, hx4, H⟩ := bind_ok H
         obtain ⟨x5, hx5, H⟩ := bind_ok H
         refine wp_regh Fx.mixed (fun w_ => SL w FF w_ [Blk g9 94 [v2], Sl T_opt_item v2 s1.1, Blk g54 93 [v45], Sl Ty.bool v45 x41]) ?_
         have s7 := s6.drew
         have s8 : SL w FF _ [Blk g9 94 [v2], Sl T_opt_item v2 s1.1, Blk g54 93 [v45], Sl Ty.bool v45 x41] := s7
         refine hd_take (i := 0) rfl (by kernel_rfl) (by kernel_rfl) (by kernel_rfl) (fun _ hC => ex_ld Fx.nag94 rfl (hC.blk_cell (.head _) rfl)) rfl rfl rfl F8 s8 fun q9 F9 => ?_
         refine hd_take (i := 1) rfl (by kernel_rfl) (by kernel_rfl) (by kernel_rfl) (fun _ hC => ex_move rfl) rfl rfl rfl F9 s8 fun q10 F10 => ?_
         obtain ⟨a3, hi0, hc2⟩ := idxC (C := fun w_ => SL w FF w_ [Blk g9 94 [v2], Sl T_opt_item v2 s1.1, Blk g54 93 [v45], Sl Ty.bool v45 x41]) F_opt_item (fun _ hC => (hC.own_rd (.tail _ <| .head _))) s8 Fx.sl94 rfl hx2
         refine hd_take (i := 2) rfl (by kernel_rfl) (by kernel_rfl) (by kernel_rfl) (fun _ hC => hi0 _ _ _ _ _ _ _ _ _ _ rfl rfl) rfl rfl rfl F10 s8 fun q12 F11 => ?_
         refine hd_take (i := 3) rfl (by kernel_rfl) (by kernel_rfl) (by kernel_rfl) (fun _ hC => ex_fa Fx.fa121_0 rfl) rfl rfl rfl F11 s8 fun q13 F13 => ?_
         refine hd_take (i := 4) rfl (by kernel_rfl) (by kernel_rfl) (by kernel_rfl) (fun _ hC => ex_ldagg Fx.agg90 rfl (Cells.sub (hc2 _ hC) 0 (ds := [.int .i64 x2.in_.At, .int .u8 (x2.in_.Op.toNat : Int), .int .i64 x2.in_.A, .int .i64 x2.in_.B]) (subcells _ rfl)) rfl) rfl rfl rfl F13 s8 fun q14 F14 => ?_
         refine hd_take (i := 5) rfl (by kernel_rfl) (by kernel_rfl) (by kernel_rfl) (fun _ hC => ex_ld Fx.nag94 rfl (hC.blk_cell (.head _) rfl)) rfl rfl rfl F14 s8 fun q16 F15 => ?_
         refine hd_take (i := 6) rfl (by kernel_rfl) (by kernel_rfl) (by kernel_rfl) (fun _ hC => ex_move rfl) rfl rfl rfl F15 s8 fun q17 F17 => ?_
         refine hd_take (i := 7) rfl (by kernel_rfl) (by kernel_rfl) (by kernel_rfl) (fun _ hC => ex_add rfl rfl) rfl rfl rfl F17 s8 fun q18 F18 => ?_
         obtain ⟨a4, hi1, hc3⟩ := idxC (C := fun w_ => SL w FF w_ [Blk g9 94 [v2], Sl T_opt_item v2 s1.1, Blk g54 93 [v45], Sl Ty.bool v45 x41]) F_opt_item (fun _ hC => (hC.own_rd (.tail _ <| .head _))) s8 Fx.sl94 rfl hx3
         refine hd_take (i := 8) rfl (by kernel_rfl) (by kernel_rfl) (by kernel_rfl) (fun _ hC => hi1 _ _ _ _ _ _ _ _ _ _ rfl rfl) rfl rfl rfl F18 s8 fun q19 F19 => ?_
         refine hd_take (i := 9) rfl (by kernel_rfl) (by kernel_rfl) (by kernel_rfl) (fun _ hC => ex_fa Fx.fa121_0 rfl) rfl rfl rfl F19 s8 fun q20 F20 => ?_
         refine hd_take (i := 10) rfl (by kernel_rfl) (by kernel_rfl) (by kernel_rfl) (fun _ hC => ex_ldagg Fx.agg90 rfl (Cells.sub (hc3 _ hC) 0 (ds := [.int .i64 x3.in_.At, .int .u8 (x3.in_.Op.toNat : Int), .int .i64 x3.in_.A, .int .i64 x3.in_.B]) (subcells _ rfl)) rfl) rfl rfl rfl F20 s8 fun q21 F21 => ?_
         refine hd_take (i := 11) rfl (by kernel_rfl) (by kernel_rfl) (by kernel_rfl) (fun _ hC => ex_ld Fx.nag94 rfl (hC.blk_cell (.head _) rfl)) rfl rfl rfl F21 s8 fun q22 F22 => ?_
         refine hd_take (i := 12) rfl (by kernel_rfl) (by kernel_rfl) (by kernel_rfl) (fun _ hC => ex_move rfl) rfl rfl rfl F22 s8 fun q23 F23 => ?_
         refine hd_take (i := 13) rfl (by kernel_rfl) (by kernel_rfl) (by kernel_rfl) (fun _ hC => ex_add rfl rfl) rfl rfl rfl F23 s8 fun q24 F24 => ?_
         obtain ⟨a5, hi2, hc4⟩ := idxC (C := fun w_ => SL w FF w_ [Blk g9 94 [v2], Sl T_opt_item v2 s1.1, Blk g54 93 [v45], Sl Ty.bool v45 x41]) F_opt_item (fun _ hC => (hC.own_rd (.tail _ <| .head _))) s8 Fx.sl94 rfl hx4
         refine hd_take (i := 14) rfl (by kernel_rfl) (by kernel_rfl) (by kernel_rfl) (fun _ hC => hi2 _ _ _ _ _ _ _ _ _ _ rfl rfl) rfl rfl rfl F24 s8 fun q25 F25 => ?_
         refine hd_take (i := 15) rfl (by kernel_rfl) (by kernel_rfl) (by kernel_rfl) (fun _ hC => ex_fa Fx.fa121_0 rfl) rfl rfl rfl F25 s8 fun q26 F26 => ?_
         refine hd_take (i := 16) rfl (by kernel_rfl) (by kernel_rfl) (by kernel_rfl) (fun _ hC => ex_ldagg Fx.agg90 rfl (Cells.sub (hc4 _ hC) 0 (ds := [.int .i64 x4.in_.At, .int .u8 (x4.in_.Op.toNat : Int), .int .i64 x4.in_.A, .int .i64 x4.in_.B]) (subcells _ rfl)) rfl) rfl rfl rfl F26 s8 fun q27 F27 => ?_
         refine hd_many (rs := [17, 21]) (by kernel_rfl) (by decide) (hd_cons (wpOp_of rfl ?_) (hd_cons (wpOp_of rfl ?_) (hd_nil)))
         ·refine st_call (args := [.tmp 35, .tmp 41, .tmp 47]) F27 Fx.fn98 rfl (opt_three_c (a0 := (⟨x2.in_.At, x2.in_.Op, x2.in_.A, x2.in_.B⟩ : S_api_Instr)) (a1 := (⟨x3.in_.At, x3.in_.Op, x3.in_.A, x3.in_.B⟩ : S_api_Instr)) (a2 := (⟨x4.in_.At, x4.in_.Op, x4.in_.A, x4.in_.B⟩ : S_api_Instr))   hx5) rfl fun v6 w3 q28 hS2 F28 => ?_
          obtain ⟨rfl, hq2⟩ := hS2
          have s9 := s7.add hq2
          have s10 : SL w FF _ [Blk g9 94 [v2], Sl T_opt_item v2 s1.1, Blk g54 93 [v45], Sl Ty.bool v45 x41] := s9
          refine kq_end ⟨s10, ?_⟩
          refine hd_many (rs := [18, 21]) (by kernel_rfl) (by decide) (hd_cons (wpOp_of rfl ?_) (hd_cons (wpOp_of rfl ?_) (hd_nil)))
          ·refine st_op F28 (ex_move rfl) rfl rfl rfl fun q29 F29 => ?_
           have s11 : SL w FF _ [Blk g9 94 [v2], Sl T_opt_item v2 s1.1, Blk g54 93 [v45], Sl Ty.bool v45 x41] := s9
           refine kq_end ⟨s11, ?_⟩
           refine hd_many (rs := [19, 20, 21]) (by kernel_rfl) (by decide) (hd_cons (wpOp_of rfl ?_) (hd_cons (wpOp_of rfl ?_) (hd_cons (wpOp_of rfl ?_) (hd_nil))))
           ·refine st_op F29 (ex_extract (v := .agg ⟨[.int .i64 x5.1.in_.At, .int .u8 (x5.1.in_.Op.toNat : Int), .int .i64 x5.1.in_.A, .int .i64 x5.1.in_.B, .int .i64 x5.1.to, .bool x5.1.gone]⟩) rfl rfl) rfl rfl rfl fun q30 F30 => ?_
            have s12 : SL w FF _ [Blk g9 94 [v2], Sl T_opt_item v2 s1.1, Blk g54 93 [v45], Sl Ty.bool v45 x41] := s9
            refine kq_end ⟨s12, ?_⟩
            refine hd_many (rs := [20, 21]) (by kernel_rfl) (by decide) (hd_cons (wpOp_of rfl ?_) (hd_cons (wpOp_of rfl ?_) (hd_nil)))
            ·refine st_op F30 (ex_extract (v := .bool x5.2) rfl rfl) rfl rfl rfl fun q31 F31 => ?_
             have s14 : SL w FF _ [Blk g9 94 [v2], Sl T_opt_item v2 s1.1, Blk g54 93 [v45], Sl Ty.bool v45 x41] := s9
             refine kq_end ⟨s14, ?_⟩
             refine hd_one (i := 21) rfl (by kernel_rfl) ?_
             refine st_alloc F31 s9 Fx.zero121 rfl rfl fun g1 w4 q32 F32 s15 => ?_
             have s16 : SL w FF _ [Blk g9 94 [v2], Sl T_opt_item v2 s1.1, Blk g54 93 [v45], Sl Ty.bool v45 x41] := s15.drop
             refine kq_end ⟨s16, ?_⟩
             refine hd_one (i := 22) rfl (by kernel_rfl) ?_
             have s17 := s15
             refine st_storea F32 s17 rfl rfl Fx.sz121 (one_cons rfl (one_cons rfl (one_cons rfl (one_cons rfl (one_cons rfl (one_cons rfl one_nil)))))) (Nat.le_of_ble_eq_true rfl) fun w5 q33 F33 s18 => ?_
             replace s18 : SL w FF w5 [Blk g1 121 [.int .i64 x5.1.in_.At, .int .u8 (x5.1.in_.Op.toNat : Int), .int .i64 x5.1.in_.A, .int .i64 x5.1.in_.B, .int .i64 x5.1.to, .bool x5.1.gone], Blk g9 94 [v2], Sl T_opt_item v2 s1.1, Blk g54 93 [v45], Sl Ty.bool v45 x41] := s18
             have s19 : SL w FF _ [Blk g9 94 [v2], Sl T_opt_item v2 s1.1, Blk g54 93 [v45], Sl Ty.bool v45 x41] := s18.drop
             refine kq_end ⟨s19, ?_⟩
             refine hd_one (i := 23) rfl (by kernel_rfl) ?_
             refine st_op F33 (ex_asg rfl) rfl rfl rfl fun q34 F34 => ?_
             have s20 : SL w FF _ [Blk g9 94 [v2], Sl T_opt_item v2 s1.1, Blk g54 93 [v45], Sl Ty.bool v45 x41] := s18.drop
             refine kq_end ⟨s20, ?_⟩
             refine hd_done (by kernel_rfl) ?_
             obtain rfl := some_ok H
             refine then_n ?_
             exact ⟨g1, F34.sub ⟨rfl, rfl, rfl, rfl, rfl, rfl, trivial⟩, s18.f4.f4.f4.f4⟩
            ·refine st_alloc F30 s9 Fx.zero121 rfl rfl fun g2 w6 q35 F35 s21 => ?_
             have s22 : SL w FF _ [Blk g9 94 [v2], Sl T_opt_item v2 s1.1, Blk g54 93 [v45], Sl Ty.bool v45 x41] := s21.drop
             refine kq_end ⟨s22, ?_⟩
             refine hd_many (rs := [20, 22]) (by kernel_rfl) (by decide) (hd_cons (wpOp_of rfl ?_) (hd_cons (wpOp_of rfl ?_) (hd_nil)))
             ·refine st_op F35 (ex_extract (v := .bool x5.2) rfl rfl) rfl rfl rfl fun q36 F36 => ?_
              have s23 : SL w FF _ [Blk g9 94 [v2], Sl T_opt_item v2 s1.1, Blk g54 93 [v45], Sl Ty.bool v45 x41] := s21.drop
              refine kq_end ⟨s23, ?_⟩
              refine hd_one (i := 22) rfl (by kernel_rfl) ?_
              have s24 := s21
              refine st_storea F36 s24 rfl rfl Fx.sz121 (one_cons rfl (one_cons rfl (one_cons rfl (one_cons rfl (one_cons rfl (one_cons rfl one_nil)))))) (Nat.le_of_ble_eq_true rfl) fun w7 q37 F37 s25 => ?_
              replace s25 : SL w FF w7 [Blk g2 121 [.int .i64 x5.1.in_.At, .int .u8 (x5.1.in_.Op.toNat : Int), .int .i64 x5.1.in_.A, .int .i64 x5.1.in_.B, .int .i64 x5.1.to, .bool x5.1.gone], Blk g9 94 [v2], Sl T_opt_item v2 s1.1, Blk g54 93 [v45], Sl Ty.bool v45 x41] := s25
              have s26 : SL w FF _ [Blk g9 94 [v2], Sl T_opt_item v2 s1.1, Blk g54 93 [v45], Sl Ty.bool v45 x41] := s25.drop
              refine kq_end ⟨s26, ?_⟩
              refine hd_one (i := 23) rfl (by kernel_rfl) ?_
              refine st_op F37 (ex_asg rfl) rfl rfl rfl fun q38 F38 => ?_
              have s27 : SL w FF _ [Blk g9 94 [v2], Sl T_opt_item v2 s1.1, Blk g54 93 [v45], Sl Ty.bool v45 x41] := s25.drop
              refine kq_end ⟨s27, ?_⟩
              refine hd_done (by kernel_rfl) ?_
              obtain rfl := some_ok H
              refine then_n ?_
              exact ⟨g2, F38.sub ⟨rfl, rfl, rfl, rfl, rfl, rfl, trivial⟩, s25.f4.f4.f4.f4⟩
             ·have s28 := s21
              refine st_storea F35 s28 rfl rfl Fx.sz121 (one_cons rfl (one_cons rfl (one_cons rfl (one_cons rfl (one_cons rfl (one_cons rfl one_nil)))))) (Nat.le_of_ble_eq_true rfl) fun w8 q39 F39 s29 => ?_
              replace s29 : SL w FF w8 [Blk g2 121 [.int .i64 x5.1.in_.At, .int .u8 (x5.1.in_.Op.toNat : Int), .int .i64 x5.1.in_.A, .int .i64 x5.1.in_.B, .int .i64 x5.1.to, .bool x5.1.gone], Blk g9 94 [v2], Sl T_opt_item v2 s1.1, Blk g54 93 [v45], Sl Ty.bool v45 x41] := s29
              have s30 : SL w FF _ [Blk g9 94 [v2], Sl T_opt_item v2 s1.1, Blk g54 93 [v45], Sl Ty.bool v45 x41] := s29.drop
              refine kq_end ⟨s30, ?_⟩
              refine hd_one (i := 20) rfl (by kernel_rfl) ?_
              refine st_op F39 (ex_extract (v := .bool x5.2) rfl rfl) rfl rfl rfl fun q40 F40 => ?_
              have s31 : SL w FF _ [Blk g9 94 [v2], Sl T_opt_item v2 s1.1, Blk g54 93 [v45], Sl Ty.bool v45 x41] := s29.drop
              refine kq_end ⟨s31, ?_⟩
              refine hd_one (i := 23) rfl (by kernel_rfl) ?_
              refine st_op F40 (ex_asg rfl) rfl rfl rfl fun q41 F41 => ?_
              have s32 : SL w FF _ [Blk g9 94 [v2], Sl T_opt_item v2 s1.1, Blk g54 93 [v45], Sl Ty.bool v45 x41] := s29.drop
              refine kq_end ⟨s32, ?_⟩
              refine hd_done (by kernel_rfl) ?_
              obtain rfl := some_ok H
              refine then_n ?_
              exact ⟨g2, F41.sub ⟨rfl, rfl, rfl, rfl, rfl, rfl, trivial⟩, s29.f4.f4.f4.f4⟩
           ·refine st_op F29 (ex_extract (v := .bool x5.2) rfl rfl) rfl rfl rfl fun q42 F42 => ?_
            have s33 : SL w FF _ [Blk g9 94 [v2], Sl T_opt_item v2 s1.1, Blk g54 93 [v45], Sl Ty.bool v45 x41] := s9
            refine kq_end ⟨s33, ?_⟩
            refine hd_many (rs := [19, 21]) (by kernel_rfl) (by decide) (hd_cons (wpOp_of rfl ?_) (hd_cons (wpOp_of rfl ?_) (hd_nil)))
            ·refine st_op F42 (ex_extract (v := .agg ⟨[.int .i64 x5.1.in_.At, .int .u8 (x5.1.in_.Op.toNat : Int), .int .i64 x5.1.in_.A, .int .i64 x5.1.in_.B, .int .i64 x5.1.to, .bool x5.1.gone]⟩) rfl rfl) rfl rfl rfl fun q44 F43 => ?_
             have s34 : SL w FF _ [Blk g9 94 [v2], Sl T_opt_item v2 s1.1, Blk g54 93 [v45], Sl Ty.bool v45 x41] := s9
             refine kq_end ⟨s34, ?_⟩
             refine hd_one (i := 21) rfl (by kernel_rfl) ?_
             refine st_alloc F43 s9 Fx.zero121 rfl rfl fun g3 w9 q45 F45 s35 => ?_
             have s36 : SL w FF _ [Blk g9 94 [v2], Sl T_opt_item v2 s1.1, Blk g54 93 [v45], Sl Ty.bool v45 x41] := s35.drop
             refine kq_end ⟨s36, ?_⟩
             refine hd_one (i := 22) rfl (by kernel_rfl) ?_
             have s37 := s35
             refine st_storea F45 s37 rfl rfl Fx.sz121 (one_cons rfl (one_cons rfl (one_cons rfl (one_cons rfl (one_cons rfl (one_cons rfl one_nil)))))) (Nat.le_of_ble_eq_true rfl) fun w11 q46 F46 s38 => ?_
             replace s38 : SL w FF w11 [Blk g3 121 [.int .i64 x5.1.in_.At, .int .u8 (x5.1.in_.Op.toNat : Int), .int .i64 x5.1.in_.A, .int .i64 x5.1.in_.B, .int .i64 x5.1.to, .bool x5.1.gone], Blk g9 94 [v2], Sl T_opt_item v2 s1.1, Blk g54 93 [v45], Sl Ty.bool v45 x41] := s38
             have s39 : SL w FF _ [Blk g9 94 [v2], Sl T_opt_item v2 s1.1, Blk g54 93 [v45], Sl Ty.bool v45 x41] := s38.drop
             refine kq_end ⟨s39, ?_⟩
             refine hd_one (i := 23) rfl (by kernel_rfl) ?_
             refine st_op F46 (ex_asg rfl) rfl rfl rfl fun q48 F47 => ?_
             have s40 : SL w FF _ [Blk g9 94 [v2], Sl T_opt_item v2 s1.1, Blk g54 93 [v45], Sl Ty.bool v45 x41] := s38.drop
             refine kq_end ⟨s40, ?_⟩
             refine hd_done (by kernel_rfl) ?_
             obtain rfl := some_ok H
             refine then_n ?_
             exact ⟨g3, F47.sub ⟨rfl, rfl, rfl, rfl, rfl, rfl, trivial⟩, s38.f4.f4.f4.f4⟩
            ·refine st_alloc F42 s9 Fx.zero121 rfl rfl fun g4 w12 q49 F49 s41 => ?_
             have s42 : SL w FF _ [Blk g9 94 [v2], Sl T_opt_item v2 s1.1, Blk g54 93 [v45], Sl Ty.bool v45 x41] := s41.drop
             refine kq_end ⟨s42, ?_⟩
             refine hd_one (i := 19) rfl (by kernel_rfl) ?_
             refine st_op F49 (ex_extract (v := .agg ⟨[.int .i64 x5.1.in_.At, .int .u8 (x5.1.in_.Op.toNat : Int), .int .i64 x5.1.in_.A, .int .i64 x5.1.in_.B, .int .i64 x5.1.to, .bool x5.1.gone]⟩) rfl rfl) rfl rfl rfl fun q50 F50 => ?_
             have s43 : SL w FF _ [Blk g9 94 [v2], Sl T_opt_item v2 s1.1, Blk g54 93 [v45], Sl Ty.bool v45 x41] := s41.drop
             refine kq_end ⟨s43, ?_⟩
             refine hd_one (i := 22) rfl (by kernel_rfl) ?_
             have s44 := s41
             refine st_storea F50 s44 rfl rfl Fx.sz121 (one_cons rfl (one_cons rfl (one_cons rfl (one_cons rfl (one_cons rfl (one_cons rfl one_nil)))))) (Nat.le_of_ble_eq_true rfl) fun w13 q51 F51 s45 => ?_
             replace s45 : SL w FF w13 [Blk g4 121 [.int .i64 x5.1.in_.At, .int .u8 (x5.1.in_.Op.toNat : Int), .int .i64 x5.1.in_.A, .int .i64 x5.1.in_.B, .int .i64 x5.1.to, .bool x5.1.gone], Blk g9 94 [v2], Sl T_opt_item v2 s1.1, Blk g54 93 [v45], Sl Ty.bool v45 x41] := s45
             have s46 : SL w FF _ [Blk g9 94 [v2], Sl T_opt_item v2 s1.1, Blk g54 93 [v45], Sl Ty.bool v45 x41] := s45.drop
             refine kq_end ⟨s46, ?_⟩
             refine hd_one (i := 23) rfl (by kernel_rfl) ?_
             refine st_op F51 (ex_asg rfl) rfl rfl rfl fun q52 F52 => ?_
             have s47 : SL w FF _ [Blk g9 94 [v2], Sl T_opt_item v2 s1.1, Blk g54 93 [v45], Sl Ty.bool v45 x41] := s45.drop
             refine kq_end ⟨s47, ?_⟩
             refine hd_done (by kernel_rfl) ?_
             obtain rfl := some_ok H
             refine then_n ?_
             exact ⟨g4, F52.sub ⟨rfl, rfl, rfl, rfl, rfl, rfl, trivial⟩, s45.f4.f4.f4.f4⟩
           ·refine st_alloc F29 s9 Fx.zero121 rfl rfl fun g5 w14 q53 F53 s48 => ?_
            have s49 : SL w FF _ [Blk g9 94 [v2], Sl T_opt_item v2 s1.1, Blk g54 93 [v45], Sl Ty.bool v45 x41] := s48.drop
            refine kq_end ⟨s49, ?_⟩
            refine hd_many (rs := [19, 20]) (by kernel_rfl) (by decide) (hd_cons (wpOp_of rfl ?_) (hd_cons (wpOp_of rfl ?_) (hd_nil)))
            ·refine st_op F53 (ex_extract (v := .agg ⟨[.int .i64 x5.1.in_.At, .int .u8 (x5.1.in_.Op.toNat : Int), .int .i64 x5.1.in_.A, .int .i64 x5.1.in_.B, .int .i64 x5.1.to, .bool x5.1.gone]⟩) rfl rfl) rfl rfl rfl fun q54 F54 => ?_
             have s51 : SL w FF _ [Blk g9 94 [v2], Sl T_opt_item v2 s1.1, Blk g54 93 [v45], Sl Ty.bool v45 x41] := s48.drop
             refine kq_end ⟨s51, ?_⟩
             refine hd_many (rs := [20, 22]) (by kernel_rfl) (by decide) (hd_cons (wpOp_of rfl ?_) (hd_cons (wpOp_of rfl ?_) (hd_nil)))
             ·refine st_op F54 (ex_extract (v := .bool x5.2) rfl rfl) rfl rfl rfl fun q55 F55 => ?_
              have s52 : SL w FF _ [Blk g9 94 [v2], Sl T_opt_item v2 s1.1, Blk g54 93 [v45], Sl Ty.bool v45 x41] := s48.drop
              refine kq_end ⟨s52, ?_⟩
              refine hd_one (i := 22) rfl (by kernel_rfl) ?_
              have s53 := s48
              refine st_storea F55 s53 rfl rfl Fx.sz121 (one_cons rfl (one_cons rfl (one_cons rfl (one_cons rfl (one_cons rfl (one_cons rfl one_nil)))))) (Nat.le_of_ble_eq_true rfl) fun w15 q57 F56 s54 => ?_
              replace s54 : SL w FF w15 [Blk g5 121 [.int .i64 x5.1.in_.At, .int .u8 (x5.1.in_.Op.toNat : Int), .int .i64 x5.1.in_.A, .int .i64 x5.1.in_.B, .int .i64 x5.1.to, .bool x5.1.gone], Blk g9 94 [v2], Sl T_opt_item v2 s1.1, Blk g54 93 [v45], Sl Ty.bool v45 x41] := s54
              have s55 : SL w FF _ [Blk g9 94 [v2], Sl T_opt_item v2 s1.1, Blk g54 93 [v45], Sl Ty.bool v45 x41] := s54.drop
              refine kq_end ⟨s55, ?_⟩
              refine hd_one (i := 23) rfl (by kernel_rfl) ?_
              refine st_op F56 (ex_asg rfl) rfl rfl rfl fun q58 F58 => ?_
              have s56 : SL w FF _ [Blk g9 94 [v2], Sl T_opt_item v2 s1.1, Blk g54 93 [v45], Sl Ty.bool v45 x41] := s54.drop
              refine kq_end ⟨s56, ?_⟩
              refine hd_done (by kernel_rfl) ?_
              obtain rfl := some_ok H
              refine then_n ?_
              exact ⟨g5, F58.sub ⟨rfl, rfl, rfl, rfl, rfl, rfl, trivial⟩, s54.f4.f4.f4.f4⟩
             ·have s57 := s48
              refine st_storea F54 s57 rfl rfl Fx.sz121 (one_cons rfl (one_cons rfl (one_cons rfl (one_cons rfl (one_cons rfl (one_cons rfl one_nil)))))) (Nat.le_of_ble_eq_true rfl) fun w16 q59 F59 s59 => ?_
              replace s59 : SL w FF w16 [Blk g5 121 [.int .i64 x5.1.in_.At, .int .u8 (x5.1.in_.Op.toNat : Int), .int .i64 x5.1.in_.A, .int .i64 x5.1.in_.B, .int .i64 x5.1.to, .bool x5.1.gone], Blk g9 94 [v2], Sl T_opt_item v2 s1.1, Blk g54 93 [v45], Sl Ty.bool v45 x41] := s59
              have s60 : SL w FF _ [Blk g9 94 [v2], Sl T_opt_item v2 s1.1, Blk g54 93 [v45], Sl Ty.bool v45 x41] := s59.drop
              refine kq_end ⟨s60, ?_⟩
              refine hd_one (i := 20) rfl (by kernel_rfl) ?_
              refine st_op F59 (ex_extract (v := .bool x5.2) rfl rfl) rfl rfl rfl fun q60 F60 => ?_
              have s61 : SL w FF _ [Blk g9 94 [v2], Sl T_opt_item v2 s1.1, Blk g54 93 [v45], Sl Ty.bool v45 x41] := s59.drop
              refine kq_end ⟨s61, ?_⟩
              refine hd_one (i := 23) rfl (by kernel_rfl) ?_
              refine st_op F60 (ex_asg rfl) rfl rfl rfl fun q62 F61 => ?_
              have s62 : SL w FF _ [Blk g9 94 [v2], Sl T_opt_item v2 s1.1, Blk g54 93 [v45], Sl Ty.bool v45 x41] := s59.drop
              refine kq_end ⟨s62, ?_⟩
              refine hd_done (by kernel_rfl) ?_
              obtain rfl := some_ok H
              refine then_n ?_
              exact ⟨g5, F61.sub ⟨rfl, rfl, rfl, rfl, rfl, rfl, trivial⟩, s59.f4.f4.f4.f4⟩
            ·refine st_op F53 (ex_extract (v := .bool x5.2) rfl rfl) rfl rfl rfl fun q63 F63 => ?_
             have s65 : SL w FF _ [Blk g9 94 [v2], Sl T_opt_item v2 s1.1, Blk g54 93 [v45], Sl Ty.bool v45 x41] := s48.drop
             refine kq_end ⟨s65, ?_⟩
             refine hd_one (i := 19) rfl (by kernel_rfl) ?_
             refine st_op F63 (ex_extract (v := .agg ⟨[.int .i64 x5.1.in_.At, .int .u8 (x5.1.in_.Op.toNat : Int), .int .i64 x5.1.in_.A, .int .i64 x5.1.in_.B, .int .i64 x5.1.to, .bool x5.1.gone]⟩) rfl rfl) rfl rfl rfl fun q64 F64 => ?_
             have s66 : SL w FF _ [Blk g9 94 [v2], Sl T_opt_item v2 s1.1, Blk g54 93 [v45], Sl Ty.bool v45 x41] := s48.drop
             refine kq_end ⟨s66, ?_⟩
             refine hd_one (i := 22) rfl (by kernel_rfl) ?_
             have s67 := s48
             refine st_storea F64 s67 rfl rfl Fx.sz121 (one_cons rfl (one_cons rfl (one_cons rfl (one_cons rfl (one_cons rfl (one_cons rfl one_nil)))))) (Nat.le_of_ble_eq_true rfl) fun w17 q65 F65 s68 => ?_
             replace s68 : SL w FF w17 [Blk g5 121 [.int .i64 x5.1.in_.At, .int .u8 (x5.1.in_.Op.toNat : Int), .int .i64 x5.1.in_.A, .int .i64 x5.1.in_.B, .int .i64 x5.1.to, .bool x5.1.gone], Blk g9 94 [v2], Sl T_opt_item v2 s1.1, Blk g54 93 [v45], Sl Ty.bool v45 x41] := s68
             have s69 : SL w FF _ [Blk g9 94 [v2], Sl T_opt_item v2 s1.1, Blk g54 93 [v45], Sl Ty.bool v45 x41] := s68.drop
             refine kq_end ⟨s69, ?_⟩
             refine hd_one (i := 23) rfl (by kernel_rfl) ?_
             refine st_op F65 (ex_asg rfl) rfl rfl rfl fun q66 F66 => ?_
             have s70 : SL w FF _ [Blk g9 94 [v2], Sl T_opt_item v2 s1.1, Blk g54 93 [v45], Sl Ty.bool v45 x41] := s68.drop
             refine kq_end ⟨s70, ?_⟩
             refine hd_done (by kernel_rfl) ?_
             obtain rfl := some_ok H
             refine then_n ?_
             exact ⟨g5, F66.sub ⟨rfl, rfl, rfl, rfl, rfl, rfl, trivial⟩, s68.f4.f4.f4.f4⟩
          ·refine st_alloc F28 s9 Fx.zero121 rfl rfl fun g6 w18 q68 F67 s71 => ?_
           have s72 : SL w FF _ [Blk g9 94 [v2], Sl T_opt_item v2 s1.1, Blk g54 93 [v45], Sl Ty.bool v45 x41] := s71.drop
           refine kq_end ⟨s72, ?_⟩
           refine hd_one (i := 18) rfl (by kernel_rfl) ?_
           refine st_op F67 (ex_move rfl) rfl rfl rfl fun q69 F69 => ?_
           have s73 : SL w FF _ [Blk g9 94 [v2], Sl T_opt_item v2 s1.1, Blk g54 93 [v45], Sl Ty.bool v45 x41] := s71.drop
           refine kq_end ⟨s73, ?_⟩
           refine hd_many (rs := [19, 20]) (by kernel_rfl) (by decide) (hd_cons (wpOp_of rfl ?_) (hd_cons (wpOp_of rfl ?_) (hd_nil)))
           ·refine st_op F69 (ex_extract (v := .agg ⟨[.int .i64 x5.1.in_.At, .int .u8 (x5.1.in_.Op.toNat : Int), .int .i64 x5.1.in_.A, .int .i64 x5.1.in_.B, .int .i64 x5.1.to, .bool x5.1.gone]⟩) rfl rfl) rfl rfl rfl fun q70 F70 => ?_
            have s74 : SL w FF _ [Blk g9 94 [v2], Sl T_opt_item v2 s1.1, Blk g54 93 [v45], Sl Ty.bool v45 x41] := s71.drop
            refine kq_end ⟨s74, ?_⟩
            refine hd_many (rs := [20, 22]) (by kernel_rfl) (by decide) (hd_cons (wpOp_of rfl ?_) (hd_cons (wpOp_of rfl ?_) (hd_nil)))
            ·refine st_op F70 (ex_extract (v := .bool x5.2) rfl rfl) rfl rfl rfl fun q72 F71 => ?_
             have s75 : SL w FF _ [Blk g9 94 [v2], Sl T_opt_item v2 s1.1, Blk g54 93 [v45], Sl Ty.bool v45 x41] := s71.drop
             refine kq_end ⟨s75, ?_⟩
             refine hd_one (i := 22) rfl (by kernel_rfl) ?_
             have s76 := s71
             refine st_storea F71 s76 rfl rfl Fx.sz121 (one_cons rfl (one_cons rfl (one_cons rfl (one_cons rfl (one_cons rfl (one_cons rfl one_nil)))))) (Nat.le_of_ble_eq_true rfl) fun w19 q73 F73 s77 => ?_
             replace s77 : SL w FF w19 [Blk g6 121 [.int .i64 x5.1.in_.At, .int .u8 (x5.1.in_.Op.toNat : Int), .int .i64 x5.1.in_.A, .int .i64 x5.1.in_.B, .int .i64 x5.1.to, .bool x5.1.gone], Blk g9 94 [v2], Sl T_opt_item v2 s1.1, Blk g54 93 [v45], Sl Ty.bool v45 x41] := s77
             have s78 : SL w FF _ [Blk g9 94 [v2], Sl T_opt_item v2 s1.1, Blk g54 93 [v45], Sl Ty.bool v45 x41] := s77.drop
             refine kq_end ⟨s78, ?_⟩
             refine hd_one (i := 23) rfl (by kernel_rfl) ?_
             refine st_op F73 (ex_asg rfl) rfl rfl rfl fun q74 F74 => ?_
             have s79 : SL w FF _ [Blk g9 94 [v2], Sl T_opt_item v2 s1.1, Blk g54 93 [v45], Sl Ty.bool v45 x41] := s77.drop
             refine kq_end ⟨s79, ?_⟩
             refine hd_done (by kernel_rfl) ?_
             obtain rfl := some_ok H
             refine then_n ?_
             exact ⟨g6, F74.sub ⟨rfl, rfl, rfl, rfl, rfl, rfl, trivial⟩, s77.f4.f4.f4.f4⟩
            ·have s80 := s71
             refine st_storea F70 s80 rfl rfl Fx.sz121 (one_cons rfl (one_cons rfl (one_cons rfl (one_cons rfl (one_cons rfl (one_cons rfl one_nil)))))) (Nat.le_of_ble_eq_true rfl) fun w20 q75 F75 s81 => ?_
             replace s81 : SL w FF w20 [Blk g6 121 [.int .i64 x5.1.in_.At, .int .u8 (x5.1.in_.Op.toNat : Int), .int .i64 x5.1.in_.A, .int .i64 x5.1.in_.B, .int .i64 x5.1.to, .bool x5.1.gone], Blk g9 94 [v2], Sl T_opt_item v2 s1.1, Blk g54 93 [v45], Sl Ty.bool v45 x41] := s81
             have s82 : SL w FF _ [Blk g9 94 [v2], Sl T_opt_item v2 s1.1, Blk g54 93 [v45], Sl Ty.bool v45 x41] := s81.drop
             refine kq_end ⟨s82, ?_⟩
             refine hd_one (i := 20) rfl (by kernel_rfl) ?_
             refine st_op F75 (ex_extract (v := .bool x5.2) rfl rfl) rfl rfl rfl fun q76 F76 => ?_
             have s83 : SL w FF _ [Blk g9 94 [v2], Sl T_opt_item v2 s1.1, Blk g54 93 [v45], Sl Ty.bool v45 x41] := s81.drop
             refine kq_end ⟨s83, ?_⟩
             refine hd_one (i := 23) rfl (by kernel_rfl) ?_
             refine st_op F76 (ex_asg rfl) rfl rfl rfl fun q77 F77 => ?_
             have s84 : SL w FF _ [Blk g9 94 [v2], Sl T_opt_item v2 s1.1, Blk g54 93 [v45], Sl Ty.bool v45 x41] := s81.drop
             refine kq_end ⟨s84, ?_⟩
             refine hd_done (by kernel_rfl) ?_
             obtain rfl := some_ok H
             refine then_n ?_
             exact ⟨g6, F77.sub ⟨rfl, rfl, rfl, rfl, rfl, rfl, trivial⟩, s81.f4.f4.f4.f4⟩
           ·refine st_op F69 (ex_extract (v := .bool x5.2) rfl rfl) rfl rfl rfl fun q78 F78 => ?_
            have s85 : SL w FF _ [Blk g9 94 [v2], Sl T_opt_item v2 s1.1, Blk g54 93 [v45], Sl Ty.bool v45 x41] := s71.drop
            refine kq_end ⟨s85, ?_⟩
            refine hd_one (i := 19) rfl (by kernel_rfl) ?_
            refine st_op F78 (ex_extract (v := .agg ⟨[.int .i64 x5.1.in_.At, .int .u8 (x5.1.in_.Op.toNat : Int), .int .i64 x5.1.in_.A, .int .i64 x5.1.in_.B, .int .i64 x5.1.to, .bool x5.1.gone]⟩) rfl rfl) rfl rfl rfl fun q79 F79 => ?_
            have s86 : SL w FF _ [Blk g9 94 [v2], Sl T_opt_item v2 s1.1, Blk g54 93 [v45], Sl Ty.bool v45 x41] := s71.drop
            refine kq_end ⟨s86, ?_⟩
            refine hd_one (i := 22) rfl (by kernel_rfl) ?_
            have s87 := s71
            refine st_storea F79 s87 rfl rfl Fx.sz121 (one_cons rfl (one_cons rfl (one_cons rfl (one_cons rfl (one_cons rfl (one_cons rfl one_nil)))))) (Nat.le_of_ble_eq_true rfl) fun w21 q80 F80 s88 => ?_
            replace s88 : SL w FF w21 [Blk g6 121 [.int .i64 x5.1.in_.At, .int .u8 (x5.1.in_.Op.toNat : Int), .int .i64 x5.1.in_.A, .int .i64 x5.1.in_.B, .int .i64 x5.1.to, .bool x5.1.gone], Blk g9 94 [v2], Sl T_opt_item v2 s1.1, Blk g54 93 [v45], Sl Ty.bool v45 x41] := s88
            have s89 : SL w FF _ [Blk g9 94 [v2], Sl T_opt_item v2 s1.1, Blk g54 93 [v45], Sl Ty.bool v45 x41] := s88.drop
            refine kq_end ⟨s89, ?_⟩
            refine hd_one (i := 23) rfl (by kernel_rfl) ?_
            refine st_op F80 (ex_asg rfl) rfl rfl rfl fun q81 F81 => ?_
            have s90 : SL w FF _ [Blk g9 94 [v2], Sl T_opt_item v2 s1.1, Blk g54 93 [v45], Sl Ty.bool v45 x41] := s88.drop
            refine kq_end ⟨s90, ?_⟩
            refine hd_done (by kernel_rfl) ?_
            obtain rfl := some_ok H
            refine then_n ?_
            exact ⟨g6, F81.sub ⟨rfl, rfl, rfl, rfl, rfl, rfl, trivial⟩, s88.f4.f4.f4.f4⟩
         ·refine st_alloc F27 s7 Fx.zero121 rfl rfl fun g7 w22 q82 F82 s91 => ?_
          have s92 : SL w FF _ [Blk g9 94 [v2], Sl T_opt_item v2 s1.1, Blk g54 93 [v45], Sl Ty.bool v45 x41] := s91.drop
          refine kq_end ⟨s92, ?_⟩
          refine hd_one (i := 17) rfl (by kernel_rfl) ?_
          refine st_call (args := [.tmp 35, .tmp 41, .tmp 47]) F82 Fx.fn98 rfl (opt_three_c (a0 := (⟨x2.in_.At, x2.in_.Op, x2.in_.A, x2.in_.B⟩ : S_api_Instr)) (a1 := (⟨x3.in_.At, x3.in_.Op, x3.in_.A, x3.in_.B⟩ : S_api_Instr)) (a2 := (⟨x4.in_.At, x4.in_.Op, x4.in_.A, x4.in_.B⟩ : S_api_Instr))   hx5) rfl fun v7 w23 q83 hS3 F83 => ?_
          obtain ⟨rfl, hq3⟩ := hS3
          have s93 := s91.add hq3
          have s94 : SL w FF _ [Blk g9 94 [v2], Sl T_opt_item v2 s1.1, Blk g54 93 [v45], Sl Ty.bool v45 x41] := s93.drop
          refine kq_end ⟨s94, ?_⟩
          refine hd_one (i := 18) rfl (by kernel_rfl) ?_
          refine st_op F83 (ex_move rfl) rfl rfl rfl fun q84 F84 => ?_
          have s95 : SL w FF _ [Blk g9 94 [v2], Sl T_opt_item v2 s1.1, Blk g54 93 [v45], Sl Ty.bool v45 x41] := s93.drop
          refine kq_end ⟨s95, ?_⟩
          refine hd_many (rs := [19, 20]) (by kernel_rfl) (by decide) (hd_cons (wpOp_of rfl ?_) (hd_cons (wpOp_of rfl ?_) (hd_nil)))
          ·refine st_op F84 (ex_extract (v := .agg ⟨[.int .i64 x5.1.in_.At, .int .u8 (x5.1.in_.Op.toNat : Int), .int .i64 x5.1.in_.A, .int .i64 x5.1.in_.B, .int .i64 x5.1.to, .bool x5.1.gone]⟩) rfl rfl) rfl rfl rfl fun q85 F85 => ?_
           have s96 : SL w FF _ [Blk g9 94 [v2], Sl T_opt_item v2 s1.1, Blk g54 93 [v45], Sl Ty.bool v45 x41] := s93.drop
           refine kq_end ⟨s96, ?_⟩
           refine hd_many (rs := [20, 22]) (by kernel_rfl) (by decide) (hd_cons (wpOp_of rfl ?_) (hd_cons (wpOp_of rfl ?_) (hd_nil)))
           ·refine st_op F85 (ex_extract (v := .bool x5.2) rfl rfl) rfl rfl rfl fun q86 F86 => ?_
            have s97 : SL w FF _ [Blk g9 94 [v2], Sl T_opt_item v2 s1.1, Blk g54 93 [v45], Sl Ty.bool v45 x41] := s93.drop
            refine kq_end ⟨s97, ?_⟩
            refine hd_one (i := 22) rfl (by kernel_rfl) ?_
            have s98 := s93
            refine st_storea F86 s98 rfl rfl Fx.sz121 (one_cons rfl (one_cons rfl (one_cons rfl (one_cons rfl (one_cons rfl (one_cons rfl one_nil)))))) (Nat.le_of_ble_eq_true rfl) fun w24 q87 F87 s99 => ?_
            replace s99 : SL w FF w24 [Blk g7 121 [.int .i64 x5.1.in_.At, .int .u8 (x5.1.in_.Op.toNat : Int), .int .i64 x5.1.in_.A, .int .i64 x5.1.in_.B, .int .i64 x5.1.to, .bool x5.1.gone], Blk g9 94 [v2], Sl T_opt_item v2 s1.1, Blk g54 93 [v45], Sl Ty.bool v45 x41] := s99
            have s100 : SL w FF _ [Blk g9 94 [v2], Sl T_opt_item v2 s1.1, Blk g54 93 [v45], Sl Ty.bool v45 x41] := s99.drop
            refine kq_end ⟨s100, ?_⟩
            refine hd_one (i := 23) rfl (by kernel_rfl) ?_
            refine st_op F87 (ex_asg rfl) rfl rfl rfl fun q88 F88 => ?_
            have s101 : SL w FF _ [Blk g9 94 [v2], Sl T_opt_item v2 s1.1, Blk g54 93 [v45], Sl Ty.bool v45 x41] := s99.drop
            refine kq_end ⟨s101, ?_⟩
            refine hd_done (by kernel_rfl) ?_
            obtain rfl := some_ok H
            refine then_n ?_
            exact ⟨g7, F88.sub ⟨rfl, rfl, rfl, rfl, rfl, rfl, trivial⟩, s99.f4.f4.f4.f4⟩
           ·have s102 := s93
            refine st_storea F85 s102 rfl rfl Fx.sz121 (one_cons rfl (one_cons rfl (one_cons rfl (one_cons rfl (one_cons rfl (one_cons rfl one_nil)))))) (Nat.le_of_ble_eq_true rfl) fun w25 q89 F89 s103 => ?_
            replace s103 : SL w FF w25 [Blk g7 121 [.int .i64 x5.1.in_.At, .int .u8 (x5.1.in_.Op.toNat : Int), .int .i64 x5.1.in_.A, .int .i64 x5.1.in_.B, .int .i64 x5.1.to, .bool x5.1.gone], Blk g9 94 [v2], Sl T_opt_item v2 s1.1, Blk g54 93 [v45], Sl Ty.bool v45 x41] := s103
            have s104 : SL w FF _ [Blk g9 94 [v2], Sl T_opt_item v2 s1.1, Blk g54 93 [v45], Sl Ty.bool v45 x41] := s103.drop
            refine kq_end ⟨s104, ?_⟩
            refine hd_one (i := 20) rfl (by kernel_rfl) ?_
            refine st_op F89 (ex_extract (v := .bool x5.2) rfl rfl) rfl rfl rfl fun q90 F90 => ?_
            have s105 : SL w FF _ [Blk g9 94 [v2], Sl T_opt_item v2 s1.1, Blk g54 93 [v45], Sl Ty.bool v45 x41] := s103.drop
            refine kq_end ⟨s105, ?_⟩
            refine hd_one (i := 23) rfl (by kernel_rfl) ?_
            refine st_op F90 (ex_asg rfl) rfl rfl rfl fun q91 F91 => ?_
            have s106 : SL w FF _ [Blk g9 94 [v2], Sl T_opt_item v2 s1.1, Blk g54 93 [v45], Sl Ty.bool v45 x41] := s103.drop
            refine kq_end ⟨s106, ?_⟩
            refine hd_done (by kernel_rfl) ?_
            obtain rfl := some_ok H
            refine then_n ?_
            exact ⟨g7, F91.sub ⟨rfl, rfl, rfl, rfl, rfl, rfl, trivial⟩, s103.f4.f4.f4.f4⟩
          ·refine st_op F84 (ex_extract (v := .bool x5.2) rfl rfl) rfl rfl rfl fun q92 F92 => ?_
           have s107 : SL w FF _ [Blk g9 94 [v2], Sl T_opt_item v2 s1.1, Blk g54 93 [v45], Sl Ty.bool v45 x41] := s93.drop
           refine kq_end ⟨s107, ?_⟩
           refine hd_one (i := 19) rfl (by kernel_rfl) ?_
           refine st_op F92 (ex_extract (v := .agg ⟨[.int .i64 x5.1.in_.At, .int .u8 (x5.1.in_.Op.toNat : Int), .int .i64 x5.1.in_.A, .int .i64 x5.1.in_.B, .int .i64 x5.1.to, .bool x5.1.gone]⟩) rfl rfl) rfl rfl rfl fun q93 F93 => ?_
           have s108 : SL w FF _ [Blk g9 94 [v2], Sl T_opt_item v2 s1.1, Blk g54 93 [v45], Sl Ty.bool v45 x41] := s93.drop
           refine kq_end ⟨s108, ?_⟩
           refine hd_one (i := 22) rfl (by kernel_rfl) ?_
           have s109 := s93
           refine st_storea F93 s109 rfl rfl Fx.sz121 (one_cons rfl (one_cons rfl (one_cons rfl (one_cons rfl (one_cons rfl (one_cons rfl one_nil)))))) (Nat.le_of_ble_eq_true rfl) fun w26 q94 F94 s110 => ?_
           replace s110 : SL w FF w26 [Blk g7 121 [.int .i64 x5.1.in_.At, .int .u8 (x5.1.in_.Op.toNat : Int), .int .i64 x5.1.in_.A, .int .i64 x5.1.in_.B, .int .i64 x5.1.to, .bool x5.1.gone], Blk g9 94 [v2], Sl T_opt_item v2 s1.1, Blk g54 93 [v45], Sl Ty.bool v45 x41] := s110
           have s111 : SL w FF _ [Blk g9 94 [v2], Sl T_opt_item v2 s1.1, Blk g54 93 [v45], Sl Ty.bool v45 x41] := s110.drop
           refine kq_end ⟨s111, ?_⟩
           refine hd_one (i := 23) rfl (by kernel_rfl) ?_
           refine st_op F94 (ex_asg rfl) rfl rfl rfl fun q95 F95 => ?_
           have s112 : SL w FF _ [Blk g9 94 [v2], Sl T_opt_item v2 s1.1, Blk g54 93 [v45], Sl Ty.bool v45 x41] := s110.drop
           refine kq_end ⟨s112, ?_⟩
           refine hd_done (by kernel_rfl) ?_
           obtain rfl := some_ok H
           refine then_n ?_
           exact ⟨g7, F95.sub ⟨rfl, rfl, rfl, rfl, rfl, rfl, trivial⟩, s110.f4.f4.f4.f4⟩
        ·intro q96 w27 hJ
         obtain ⟨g0, F96, s113⟩ := hJ
         have H := R3
         clear R3 H3
         refine then_n <| wp_seq <| wp_reg ?_
         refine st_pr F96 (PR.op (ex_move rfl) <| PR.nil) fun q97 F97 => ?_
         refine st_end <| then_n ?_
         refine wp_if F97 rfl (fun hb3 => ?_) (fun hb3 => ?_)
         ·replace H := ite_t hb3 H
          refine wp_seq ?_
          obtain ⟨x6, hx6, H⟩ := bind_ok H
          obtain ⟨x7, hx7, H⟩ := bind_ok H
          obtain ⟨x8, hx8, H⟩ := bind_ok H
          refine wp_regh Fx.mixed (fun w_ => SL w FF w_ [Blk g9 94 [v2], Blk g54 93 [v45], Sl Ty.bool v45 x41, Blk g0 121 [.int .i64 o4.1, .int .u8 (o4.2.1.toNat : Int), .int .i64 o4.2.2.1, .int .i64 o4.2.2.2.1, .int .i64 o4.2.2.2.2.1, .bool o4.2.2.2.2.2.1]]) ?_
          have s114 := s113.drew
          have s115 : SL w FF _ [Blk g9 94 [v2], Blk g54 93 [v45], Sl Ty.bool v45 x41, Blk g0 121 [.int .i64 o4.1, .int .u8 (o4.2.1.toNat : Int), .int .i64 o4.2.2.1, .int .i64 o4.2.2.2.1, .int .i64 o4.2.2.2.2.1, .bool o4.2.2.2.2.2.1]] := s114.f1.drop
          refine hd_take (i := 0) rfl (by kernel_rfl) (by kernel_rfl) (by kernel_rfl) (fun _ hC => ex_ld Fx.nag94 rfl (hC.blk_cell (.head _) rfl)) rfl rfl rfl F97 s115 fun q98 F98 => ?_
          refine hd_take (i := 1) rfl (by kernel_rfl) (by kernel_rfl) (by kernel_rfl) (fun _ hC => ex_move rfl) rfl rfl rfl F98 s115 fun q99 F99 => ?_
          refine hd_take (i := 2) rfl (by kernel_rfl) (by kernel_rfl) (by kernel_rfl) (fun _ hC => ex_ld Fx.nag94 rfl (hC.blk_cell (.head _) rfl)) rfl rfl rfl F99 s115 fun q100 F100 => ?_
          refine hd_take (i := 3) rfl (by kernel_rfl) (by kernel_rfl) (by kernel_rfl) (fun _ hC => ex_move rfl) rfl rfl rfl F100 s115 fun q101 F101 => ?_
          refine hd_take (i := 4) rfl (by kernel_rfl) (by kernel_rfl) (by kernel_rfl) (fun _ hC => ex_add rfl rfl) rfl rfl rfl F101 s115 fun q102 F102 => ?_
          refine hd_take (i := 5) rfl (by kernel_rfl) (by kernel_rfl) (by kernel_rfl) (fun _ hC => ex_ld Fx.nag94 rfl (hC.blk_cell (.head _) rfl)) rfl rfl rfl F102 s115 fun q103 F103 => ?_
          refine hd_take (i := 6) rfl (by kernel_rfl) (by kernel_rfl) (by kernel_rfl) (fun _ hC => ex_move rfl) rfl rfl rfl F103 s115 fun q104 F104 => ?_
          refine hd_take (i := 7) rfl (by kernel_rfl) (by kernel_rfl) (by kernel_rfl) (fun _ hC => ex_add rfl rfl) rfl rfl rfl F104 s115 fun q105 F105 => ?_
          refine hd_take (i := 8) rfl (by kernel_rfl) (by kernel_rfl) (by kernel_rfl) (fun _ hC => ex_ldagg Fx.agg121 rfl (hC.blk_cells (.tail _ <| .tail _ <| .tail _ <| .head _) (o := 0) (ds := [.int .i64 o4.1, .int .u8 (o4.2.1.toNat : Int), .int .i64 o4.2.2.1, .int .i64 o4.2.2.2.1, .int .i64 o4.2.2.2.2.1, .bool o4.2.2.2.2.2.1]) (fun j u hu => by rw [Nat.zero_add]; exact hu)) rfl) rfl rfl rfl F105 s115 fun q106 F106 => ?_
          refine hd_one (i := 9) rfl (by kernel_rfl) ?_
          obtain ⟨a6, hi3, he0⟩ := own_idx F_opt_item s114 (.tail _ <| .head _) Fx.sl94 rfl hx6
          refine st_op F106 (hi3 _ _ _ _ _ _ _ _ _ _ rfl rfl) rfl rfl rfl fun q107 F107 => ?_
          have s116 : SL w FF _ [Blk g9 94 [v2], Blk g54 93 [v45], Sl Ty.bool v45 x41, Blk g0 121 [.int .i64 o4.1, .int .u8 (o4.2.1.toNat : Int), .int .i64 o4.2.2.1, .int .i64 o4.2.2.2.1, .int .i64 o4.2.2.2.2.1, .bool o4.2.2.2.2.2.1]] := s114.f1.drop
          refine kq_end ⟨s116, ?_⟩
          refine hd_one (i := 10) rfl (by kernel_rfl) ?_
          refine st_setel (y' := (⟨(⟨o4.1, o4.2.1, o4.2.2.1, o4.2.2.2.1⟩ : S_api_Instr), o4.2.2.2.2.1, o4.2.2.2.2.2.1⟩ : S_opt_item)) F_opt_item F107 s114.f1 he0 hx6 rfl rfl (by rfl) Fx.sz121 fun w28 q108 F108 s117 => ?_
          have s118 : SL w FF _ [Blk g9 94 [v2], Blk g54 93 [v45], Sl Ty.bool v45 x41, Blk g0 121 [.int .i64 o4.1, .int .u8 (o4.2.1.toNat : Int), .int .i64 o4.2.2.1, .int .i64 o4.2.2.2.1, .int .i64 o4.2.2.2.2.1, .bool o4.2.2.2.2.2.1]] := s117.drop
          refine kq_end ⟨s118, ?_⟩
          refine hd_one (i := 11) rfl (by kernel_rfl) ?_
          obtain ⟨a7, hi4, he1⟩ := own_idx F_opt_item s117 (.head _) Fx.sl94 rfl hx7
          refine st_op F108 (hi4 _ _ _ _ _ _ _ _ _ _ rfl rfl) rfl rfl rfl fun q109 F109 => ?_
          have s119 : SL w FF _ [Blk g9 94 [v2], Blk g54 93 [v45], Sl Ty.bool v45 x41, Blk g0 121 [.int .i64 o4.1, .int .u8 (o4.2.1.toNat : Int), .int .i64 o4.2.2.1, .int .i64 o4.2.2.2.1, .int .i64 o4.2.2.2.2.1, .bool o4.2.2.2.2.2.1]] := s117.drop
          refine kq_end ⟨s119, ?_⟩
          refine hd_one (i := 12) rfl (by kernel_rfl) ?_
          refine st_op F109 (ex_fa Fx.fa121_2 rfl) rfl rfl rfl fun q110 F110 => ?_
          have s120 : SL w FF _ [Blk g9 94 [v2], Blk g54 93 [v45], Sl Ty.bool v45 x41, Blk g0 121 [.int .i64 o4.1, .int .u8 (o4.2.1.toNat : Int), .int .i64 o4.2.2.1, .int .i64 o4.2.2.2.1, .int .i64 o4.2.2.2.2.1, .bool o4.2.2.2.2.2.1]] := s117.drop
          refine kq_end ⟨s120, ?_⟩
          refine hd_one (i := 13) rfl (by kernel_rfl) ?_
          refine st_setfld (y' := (⟨(⟨x7.in_.At, x7.in_.Op, x7.in_.A, x7.in_.B⟩ : S_api_Instr), x7.to, true⟩ : S_opt_item)) (o := 5) (ds := [.bool true]) F_opt_item F110 s117 he1 hx7 rfl rfl (by rfl) Fx.sz4 (by rfl) (one_cons rfl one_nil) (by rfl) fun w29 q111 F111 s121 => ?_
          have s122 : SL w FF _ [Blk g9 94 [v2], Blk g54 93 [v45], Sl Ty.bool v45 x41, Blk g0 121 [.int .i64 o4.1, .int .u8 (o4.2.1.toNat : Int), .int .i64 o4.2.2.1, .int .i64 o4.2.2.2.1, .int .i64 o4.2.2.2.2.1, .bool o4.2.2.2.2.2.1]] := s121.drop
          refine kq_end ⟨s122, ?_⟩
          refine hd_one (i := 14) rfl (by kernel_rfl) ?_
          obtain ⟨a8, hi5, he2⟩ := own_idx F_opt_item s121 (.head _) Fx.sl94 rfl hx8
          refine st_op F111 (hi5 _ _ _ _ _ _ _ _ _ _ rfl rfl) rfl rfl rfl fun q112 F112 => ?_
          have s123 : SL w FF _ [Blk g9 94 [v2], Blk g54 93 [v45], Sl Ty.bool v45 x41, Blk g0 121 [.int .i64 o4.1, .int .u8 (o4.2.1.toNat : Int), .int .i64 o4.2.2.1, .int .i64 o4.2.2.2.1, .int .i64 o4.2.2.2.2.1, .bool o4.2.2.2.2.2.1]] := s121.drop
          refine kq_end ⟨s123, ?_⟩
          refine hd_one (i := 15) rfl (by kernel_rfl) ?_
          refine st_op F112 (ex_fa Fx.fa121_2 rfl) rfl rfl rfl fun q113 F113 => ?_
          have s124 : SL w FF _ [Blk g9 94 [v2], Blk g54 93 [v45], Sl Ty.bool v45 x41, Blk g0 121 [.int .i64 o4.1, .int .u8 (o4.2.1.toNat : Int), .int .i64 o4.2.2.1, .int .i64 o4.2.2.2.1, .int .i64 o4.2.2.2.2.1, .bool o4.2.2.2.2.2.1]] := s121.drop
          refine kq_end ⟨s124, ?_⟩
          refine hd_one (i := 16) rfl (by kernel_rfl) ?_
          refine st_setfld (y' := (⟨(⟨x8.in_.At, x8.in_.Op, x8.in_.A, x8.in_.B⟩ : S_api_Instr), x8.to, true⟩ : S_opt_item)) (o := 5) (ds := [.bool true]) F_opt_item F113 s121 he2 hx8 rfl rfl (by rfl) Fx.sz4 (by rfl) (one_cons rfl one_nil) (by rfl) fun w30 q114 F114 s125 => ?_
          have s126 : SL w FF _ [Blk g9 94 [v2], Blk g54 93 [v45], Sl Ty.bool v45 x41, Blk g0 121 [.int .i64 o4.1, .int .u8 (o4.2.1.toNat : Int), .int .i64 o4.2.2.1, .int .i64 o4.2.2.2.1, .int .i64 o4.2.2.2.2.1, .bool o4.2.2.2.2.2.1]] := s125.drop
          refine kq_end ⟨s126, ?_⟩
          refine hd_one (i := 17) rfl (by kernel_rfl) ?_
          refine st_op F114 (ex_asg rfl) rfl rfl rfl fun q115 F115 => ?_
          have s127 : SL w FF _ [Blk g9 94 [v2], Blk g54 93 [v45], Sl Ty.bool v45 x41, Blk g0 121 [.int .i64 o4.1, .int .u8 (o4.2.1.toNat : Int), .int .i64 o4.2.2.1, .int .i64 o4.2.2.2.1, .int .i64 o4.2.2.2.2.1, .bool o4.2.2.2.2.2.1]] := s125.drop
          refine kq_end ⟨s127, ?_⟩
          refine hd_done (by kernel_rfl) ?_
          refine then_n <| wp_seq <| wp_reg ?_
          refine st_pr F115 (PR.op (ex_move rfl) <| PR.op (ex_add rfl rfl) <| PR.op (ex_asg rfl) <| PR.nil) fun q116 F116 => ?_
          refine st_end <| then_n <| wp_exit <| then_x <| then_x <| blk_hit ?_
          obtain rfl := some_ok H
          replace H := R2
          dsimp only at H
          obtain rfl := some_ok H
          refine then_n ?_
          exact ⟨v2, F116.sub ⟨rfl, rfl, rfl, rfl, trivial⟩, s125.f4.drop.f3.f3.f3⟩
         ·replace H := ite_f hb3 H
          refine wp_skip ?_
          obtain rfl := some_ok H
          refine then_n ?_
          exact ⟨_, rfl, F97.sub ⟨rfl, rfl, rfl, rfl, trivial⟩, s113.f4.drop⟩
       ·replace H := ite_f hb2 H
        refine wp_skip ?_
        obtain rfl := some_ok H
        refine then_n ?_
        exact ⟨_, rfl, F8.sub ⟨rfl, rfl, rfl, rfl, trivial⟩, s6⟩
      ·intro q117 w31 hJ
       obtain ⟨p0, rfl, F117, s128⟩ := hJ
       have H := R2
       clear R2 H2
       dsimp only at H
       refine then_n <| wp_seq ?_
       obtain ⟨o5, H4, R4⟩ := bind_ok H
       clear H
       refine wp_cutn (fun a w_ => ∃ g8 : Nat, Fr a 98 [(1, .pointer (some ⟨g9, 0, none⟩)), (5, .bool s1.2.1), (6, clo 97 [.pointer (some ⟨g9, 0, none⟩), .pointer (some ⟨g54, 0, none⟩)]), (7, .int .i64 s1.2.2), (10, .pointer (some ⟨g8, 0, none⟩)), (11, .bool o5.2.2.2.2.2.2)] ∧ SL w FF w_ [Blk g9 94 [v2], Sl T_opt_item v2 s1.1, Blk g54 93 [v45], Sl Ty.bool v45 x41, Blk g8 121 [.int .i64 o5.1, .int .u8 (o5.2.1.toNat : Int), .int .i64 o5.2.2.1, .int .i64 o5.2.2.2.1, .int .i64 o5.2.2.2.2.1, .bool o5.2.2.2.2.2.1]]) ?_ ?_
       ·have H := H4
        obtain ⟨x9, hx9, H⟩ := bind_ok H
        obtain ⟨x10, hx10, H⟩ := bind_ok H
        obtain ⟨x11, hx11, H⟩ := bind_ok H
        refine wp_regh Fx.mixed (fun w_ => SL w FF w_ [Blk g9 94 [v2], Sl T_opt_item v2 s1.1, Blk g54 93 [v45], Sl Ty.bool v45 x41]) ?_
        have s129 := s128.drew
        have s130 : SL w FF _ [Blk g9 94 [v2], Sl T_opt_item v2 s1.1, Blk g54 93 [v45], Sl Ty.bool v45 x41] := s129
        refine hd_take (i := 0) rfl (by kernel_rfl) (by kernel_rfl) (by kernel_rfl) (fun _ hC => ex_ld Fx.nag94 rfl (hC.blk_cell (.head _) rfl)) rfl rfl rfl F117 s130 fun q118 F118 => ?_
        refine hd_take (i := 1) rfl (by kernel_rfl) (by kernel_rfl) (by kernel_rfl) (fun _ hC => ex_move rfl) rfl rfl rfl F118 s130 fun q119 F119 => ?_
        obtain ⟨a9, hi6, hc5⟩ := idxC (C := fun w_ => SL w FF w_ [Blk g9 94 [v2], Sl T_opt_item v2 s1.1, Blk g54 93 [v45], Sl Ty.bool v45 x41]) F_opt_item (fun _ hC => (hC.own_rd (.tail _ <| .head _))) s130 Fx.sl94 rfl hx9
        refine hd_take (i := 2) rfl (by kernel_rfl) (by kernel_rfl) (by kernel_rfl) (fun _ hC => hi6 _ _ _ _ _ _ _ _ _ _ rfl rfl) rfl rfl rfl F119 s130 fun q120 F120 => ?_
        refine hd_take (i := 3) rfl (by kernel_rfl) (by kernel_rfl) (by kernel_rfl) (fun _ hC => ex_fa Fx.fa121_0 rfl) rfl rfl rfl F120 s130 fun q121 F121 => ?_
        refine hd_take (i := 4) rfl (by kernel_rfl) (by kernel_rfl) (by kernel_rfl) (fun _ hC => ex_ldagg Fx.agg90 rfl (Cells.sub (hc5 _ hC) 0 (ds := [.int .i64 x9.in_.At, .int .u8 (x9.in_.Op.toNat : Int), .int .i64 x9.in_.A, .int .i64 x9.in_.B]) (subcells _ rfl)) rfl) rfl rfl rfl F121 s130 fun q122 F122 => ?_
        refine hd_take (i := 5) rfl (by kernel_rfl) (by kernel_rfl) (by kernel_rfl) (fun _ hC => ex_ld Fx.nag94 rfl (hC.blk_cell (.head _) rfl)) rfl rfl rfl F122 s130 fun q123 F123 => ?_
        refine hd_take (i := 6) rfl (by kernel_rfl) (by kernel_rfl) (by kernel_rfl) (fun _ hC => ex_move rfl) rfl rfl rfl F123 s130 fun q124 F124 => ?_
        refine hd_take (i := 7) rfl (by kernel_rfl) (by kernel_rfl) (by kernel_rfl) (fun _ hC => ex_add rfl rfl) rfl rfl rfl F124 s130 fun q125 F125 => ?_
        obtain ⟨a10, hi7, hc6⟩ := idxC (C := fun w_ => SL w FF w_ [Blk g9 94 [v2], Sl T_opt_item v2 s1.1, Blk g54 93 [v45], Sl Ty.bool v45 x41]) F_opt_item (fun _ hC => (hC.own_rd (.tail _ <| .head _))) s130 Fx.sl94 rfl hx10
        refine hd_take (i := 8) rfl (by kernel_rfl) (by kernel_rfl) (by kernel_rfl) (fun _ hC => hi7 _ _ _ _ _ _ _ _ _ _ rfl rfl) rfl rfl rfl F125 s130 fun q126 F126 => ?_
        refine hd_take (i := 9) rfl (by kernel_rfl) (by kernel_rfl) (by kernel_rfl) (fun _ hC => ex_fa Fx.fa121_0 rfl) rfl rfl rfl F126 s130 fun q127 F127 => ?_
        refine hd_take (i := 10) rfl (by kernel_rfl) (by kernel_rfl) (by kernel_rfl) (fun _ hC => ex_ldagg Fx.agg90 rfl (Cells.sub (hc6 _ hC) 0 (ds := [.int .i64 x10.in_.At, .int .u8 (x10.in_.Op.toNat : Int), .int .i64 x10.in_.A, .int .i64 x10.in_.B]) (subcells _ rfl)) rfl) rfl rfl rfl F127 s130 fun q128 F128 => ?_
        refine hd_many (rs := [11, 15]) (by kernel_rfl) (by decide) (hd_cons (wpOp_of rfl ?_) (hd_cons (wpOp_of rfl ?_) (hd_nil)))
        ·refine st_call (args := [.tmp 73, .tmp 79]) F128 Fx.fn99 rfl (opt_two_c (a0 := (⟨x9.in_.At, x9.in_.Op, x9.in_.A, x9.in_.B⟩ : S_api_Instr)) (a1 := (⟨x10.in_.At, x10.in_.Op, x10.in_.A, x10.in_.B⟩ : S_api_Instr))   hx11) rfl fun v8 w32 q129 hS4 F129 => ?_
         obtain ⟨rfl, hq4⟩ := hS4
         have s131 := s129.add hq4
         have s132 : SL w FF _ [Blk g9 94 [v2], Sl T_opt_item v2 s1.1, Blk g54 93 [v45], Sl Ty.bool v45 x41] := s131
         refine kq_end ⟨s132, ?_⟩
         refine hd_many (rs := [12, 15]) (by kernel_rfl) (by decide) (hd_cons (wpOp_of rfl ?_) (hd_cons (wpOp_of rfl ?_) (hd_nil)))
         ·refine st_op F129 (ex_move rfl) rfl rfl rfl fun q130 F130 => ?_
          have s133 : SL w FF _ [Blk g9 94 [v2], Sl T_opt_item v2 s1.1, Blk g54 93 [v45], Sl Ty.bool v45 x41] := s131
          refine kq_end ⟨s133, ?_⟩
          refine hd_many (rs := [13, 14, 15]) (by kernel_rfl) (by decide) (hd_cons (wpOp_of rfl ?_) (hd_cons (wpOp_of rfl ?_) (hd_cons (wpOp_of rfl ?_) (hd_nil))))
          ·refine st_op F130 (ex_extract (v := .agg ⟨[.int .i64 x11.1.in_.At, .int .u8 (x11.1.in_.Op.toNat : Int), .int .i64 x11.1.in_.A, .int .i64 x11.1.in_.B, .int .i64 x11.1.to, .bool x11.1.gone]⟩) rfl rfl) rfl rfl rfl fun q131 F131 => ?_
           have s134 : SL w FF _ [Blk g9 94 [v2], Sl T_opt_item v2 s1.1, Blk g54 93 [v45], Sl Ty.bool v45 x41] := s131
           refine kq_end ⟨s134, ?_⟩
           refine hd_many (rs := [14, 15]) (by kernel_rfl) (by decide) (hd_cons (wpOp_of rfl ?_) (hd_cons (wpOp_of rfl ?_) (hd_nil)))
           ·refine st_op F131 (ex_extract (v := .bool x11.2) rfl rfl) rfl rfl rfl fun q132 F132 => ?_
            have s135 : SL w FF _ [Blk g9 94 [v2], Sl T_opt_item v2 s1.1, Blk g54 93 [v45], Sl Ty.bool v45 x41] := s131
            refine kq_end ⟨s135, ?_⟩
            refine hd_one (i := 15) rfl (by kernel_rfl) ?_
            refine st_alloc F132 s131 Fx.zero121 rfl rfl fun g10 w33 q133 F133 s136 => ?_
            have s137 : SL w FF _ [Blk g9 94 [v2], Sl T_opt_item v2 s1.1, Blk g54 93 [v45], Sl Ty.bool v45 x41] := s136.drop
            refine kq_end ⟨s137, ?_⟩
            refine hd_one (i := 16) rfl (by kernel_rfl) ?_
            have s138 := s136
            refine st_storea F133 s138 rfl rfl Fx.sz121 (one_cons rfl (one_cons rfl (one_cons rfl (one_cons rfl (one_cons rfl (one_cons rfl one_nil)))))) (Nat.le_of_ble_eq_true rfl) fun w34 q134 F134 s139 => ?_
            replace s139 : SL w FF w34 [Blk g10 121 [.int .i64 x11.1.in_.At, .int .u8 (x11.1.in_.Op.toNat : Int), .int .i64 x11.1.in_.A, .int .i64 x11.1.in_.B, .int .i64 x11.1.to, .bool x11.1.gone], Blk g9 94 [v2], Sl T_opt_item v2 s1.1, Blk g54 93 [v45], Sl Ty.bool v45 x41] := s139
            have s140 : SL w FF _ [Blk g9 94 [v2], Sl T_opt_item v2 s1.1, Blk g54 93 [v45], Sl Ty.bool v45 x41] := s139.drop
            refine kq_end ⟨s140, ?_⟩
            refine hd_one (i := 17) rfl (by kernel_rfl) ?_
            refine st_op F134 (ex_asg rfl) rfl rfl rfl fun q135 F135 => ?_
            have s141 : SL w FF _ [Blk g9 94 [v2], Sl T_opt_item v2 s1.1, Blk g54 93 [v45], Sl Ty.bool v45 x41] := s139.drop
            refine kq_end ⟨s141, ?_⟩
            refine hd_done (by kernel_rfl) ?_
            obtain rfl := some_ok H
            refine then_n ?_
            exact ⟨g10, F135.sub ⟨rfl, rfl, rfl, rfl, rfl, rfl, trivial⟩, s139.f4.f4.f4.f4⟩
           ·refine st_alloc F131 s131 Fx.zero121 rfl rfl fun g11 w35 q136 F136 s142 => ?_
            have s143 : SL w FF _ [Blk g9 94 [v2], Sl T_opt_item v2 s1.1, Blk g54 93 [v45], Sl Ty.bool v45 x41] := s142.drop
            refine kq_end ⟨s143, ?_⟩
            refine hd_many (rs := [14, 16]) (by kernel_rfl) (by decide) (hd_cons (wpOp_of rfl ?_) (hd_cons (wpOp_of rfl ?_) (hd_nil)))
            ·refine st_op F136 (ex_extract (v := .bool x11.2) rfl rfl) rfl rfl rfl fun q137 F137 => ?_
             have s144 : SL w FF _ [Blk g9 94 [v2], Sl T_opt_item v2 s1.1, Blk g54 93 [v45], Sl Ty.bool v45 x41] := s142.drop
             refine kq_end ⟨s144, ?_⟩
             refine hd_one (i := 16) rfl (by kernel_rfl) ?_
             have s145 := s142
             refine st_storea F137 s145 rfl rfl Fx.sz121 (one_cons rfl (one_cons rfl (one_cons rfl (one_cons rfl (one_cons rfl (one_cons rfl one_nil)))))) (Nat.le_of_ble_eq_true rfl) fun w36 q138 F138 s146 => ?_
             replace s146 : SL w FF w36 [Blk g11 121 [.int .i64 x11.1.in_.At, .int .u8 (x11.1.in_.Op.toNat : Int), .int .i64 x11.1.in_.A, .int .i64 x11.1.in_.B, .int .i64 x11.1.to, .bool x11.1.gone], Blk g9 94 [v2], Sl T_opt_item v2 s1.1, Blk g54 93 [v45], Sl Ty.bool v45 x41] := s146
             have s147 : SL w FF _ [Blk g9 94 [v2], Sl T_opt_item v2 s1.1, Blk g54 93 [v45], Sl Ty.bool v45 x41] := s146.drop
             refine kq_end ⟨s147, ?_⟩
             refine hd_one (i := 17) rfl (by kernel_rfl) ?_
             refine st_op F138 (ex_asg rfl) rfl rfl rfl fun q139 F139 => ?_
             have s148 : SL w FF _ [Blk g9 94 [v2], Sl T_opt_item v2 s1.1, Blk g54 93 [v45], Sl Ty.bool v45 x41] := s146.drop
             refine kq_end ⟨s148, ?_⟩
             refine hd_done (by kernel_rfl) ?_
             obtain rfl := some_ok H
             refine then_n ?_
             exact ⟨g11, F139.sub ⟨rfl, rfl, rfl, rfl, rfl, rfl, trivial⟩, s146.f4.f4.f4.f4⟩
            ·have s149 := s142
             refine st_storea F136 s149 rfl rfl Fx.sz121 (one_cons rfl (one_cons rfl (one_cons rfl (one_cons rfl (one_cons rfl (one_cons rfl one_nil)))))) (Nat.le_of_ble_eq_true rfl) fun w37 q140 F140 s150 => ?_
             replace s150 : SL w FF w37 [Blk g11 121 [.int .i64 x11.1.in_.At, .int .u8 (x11.1.in_.Op.toNat : Int), .int .i64 x11.1.in_.A, .int .i64 x11.1.in_.B, .int .i64 x11.1.to, .bool x11.1.gone], Blk g9 94 [v2], Sl T_opt_item v2 s1.1, Blk g54 93 [v45], Sl Ty.bool v45 x41] := s150
             have s151 : SL w FF _ [Blk g9 94 [v2], Sl T_opt_item v2 s1.1, Blk g54 93 [v45], Sl Ty.bool v45 x41] := s150.drop
             refine kq_end ⟨s151, ?_⟩
             refine hd_one (i := 14) rfl (by kernel_rfl) ?_
             refine st_op F140 (ex_extract (v := .bool x11.2) rfl rfl) rfl rfl rfl fun q141 F141 => ?_
             have s152 : SL w FF _ [Blk g9 94 [v2], Sl T_opt_item v2 s1.1, Blk g54 93 [v45], Sl Ty.bool v45 x41] := s150.drop
             refine kq_end ⟨s152, ?_⟩
             refine hd_one (i := 17) rfl (by kernel_rfl) ?_
             refine st_op F141 (ex_asg rfl) rfl rfl rfl fun q142 F142 => ?_
             have s153 : SL w FF _ [Blk g9 94 [v2], Sl T_opt_item v2 s1.1, Blk g54 93 [v45], Sl Ty.bool v45 x41] := s150.drop
             refine kq_end ⟨s153, ?_⟩
             refine hd_done (by kernel_rfl) ?_
             obtain rfl := some_ok H
             refine then_n ?_
             exact ⟨g11, F142.sub ⟨rfl, rfl, rfl, rfl, rfl, rfl, trivial⟩, s150.f4.f4.f4.f4⟩
          ·refine st_op F130 (ex_extract (v := .bool x11.2) rfl rfl) rfl rfl rfl fun q143 F143 => ?_
           have s154 : SL w FF _ [Blk g9 94 [v2], Sl T_opt_item v2 s1.1, Blk g54 93 [v45], Sl Ty.bool v45 x41] := s131
           refine kq_end ⟨s154, ?_⟩
           refine hd_many (rs := [13, 15]) (by kernel_rfl) (by decide) (hd_cons (wpOp_of rfl ?_) (hd_cons (wpOp_of rfl ?_) (hd_nil)))
           ·refine st_op F143 (ex_extract (v := .agg ⟨[.int .i64 x11.1.in_.At, .int .u8 (x11.1.in_.Op.toNat : Int), .int .i64 x11.1.in_.A, .int .i64 x11.1.in_.B, .int .i64 x11.1.to, .bool x11.1.gone]⟩) rfl rfl) rfl rfl rfl fun q144 F144 => ?_
            have s155 : SL w FF _ [Blk g9 94 [v2], Sl T_opt_item v2 s1.1, Blk g54 93 [v45], Sl Ty.bool v45 x41] := s131
            refine kq_end ⟨s155, ?_⟩
            refine hd_one (i := 15) rfl (by kernel_rfl) ?_
            refine st_alloc F144 s131 Fx.zero121 rfl rfl fun g12 w38 q145 F145 s156 => ?_
            have s157 : SL w FF _ [Blk g9 94 [v2], Sl T_opt_item v2 s1.1, Blk g54 93 [v45], Sl Ty.bool v45 x41] := s156.drop
            refine kq_end ⟨s157, ?_⟩
            refine hd_one (i := 16) rfl (by kernel_rfl) ?_
            have s158 := s156
            refine st_storea F145 s158 rfl rfl Fx.sz121 (one_cons rfl (one_cons rfl (one_cons rfl (one_cons rfl (one_cons rfl (one_cons rfl one_nil)))))) (Nat.le_of_ble_eq_true rfl) fun w39 q146 F146 s159 => ?_
            replace s159 : SL w FF w39 [Blk g12 121 [.int .i64 x11.1.in_.At, .int .u8 (x11.1.in_.Op.toNat : Int), .int .i64 x11.1.in_.A, .int .i64 x11.1.in_.B, .int .i64 x11.1.to, .bool x11.1.gone], Blk g9 94 [v2], Sl T_opt_item v2 s1.1, Blk g54 93 [v45], Sl Ty.bool v45 x41] := s159
            have s160 : SL w FF _ [Blk g9 94 [v2], Sl T_opt_item v2 s1.1, Blk g54 93 [v45], Sl Ty.bool v45 x41] := s159.drop
            refine kq_end ⟨s160, ?_⟩
            refine hd_one (i := 17) rfl (by kernel_rfl) ?_
            refine st_op F146 (ex_asg rfl) rfl rfl rfl fun q147 F147 => ?_
            have s161 : SL w FF _ [Blk g9 94 [v2], Sl T_opt_item v2 s1.1, Blk g54 93 [v45], Sl Ty.bool v45 x41] := s159.drop
            refine kq_end ⟨s161, ?_⟩
            refine hd_done (by kernel_rfl) ?_
            obtain rfl := some_ok H
            refine then_n ?_
            exact ⟨g12, F147.sub ⟨rfl, rfl, rfl, rfl, rfl, rfl, trivial⟩, s159.f4.f4.f4.f4⟩
           ·refine st_alloc F143 s131 Fx.zero121 rfl rfl fun g13 w40 q148 F148 s162 => ?_
            have s163 : SL w FF _ [Blk g9 94 [v2], Sl T_opt_item v2 s1.1, Blk g54 93 [v45], Sl Ty.bool v45 x41] := s162.drop
            refine kq_end ⟨s163, ?_⟩
            refine hd_one (i := 13) rfl (by kernel_rfl) ?_
            refine st_op F148 (ex_extract (v := .agg ⟨[.int .i64 x11.1.in_.At, .int .u8 (x11.1.in_.Op.toNat : Int), .int .i64 x11.1.in_.A, .int .i64 x11.1.in_.B, .int .i64 x11.1.to, .bool x11.1.gone]⟩) rfl rfl) rfl rfl rfl fun q149 F149 => ?_
            have s164 : SL w FF _ [Blk g9 94 [v2], Sl T_opt_item v2 s1.1, Blk g54 93 [v45], Sl Ty.bool v45 x41] := s162.drop
            refine kq_end ⟨s164, ?_⟩
            refine hd_one (i := 16) rfl (by kernel_rfl) ?_
            have s165 := s162
            refine st_storea F149 s165 rfl rfl Fx.sz121 (one_cons rfl (one_cons rfl (one_cons rfl (one_cons rfl (one_cons rfl (one_cons rfl one_nil)))))) (Nat.le_of_ble_eq_true rfl) fun w41 q150 F150 s166 => ?_
            replace s166 : SL w FF w41 [Blk g13 121 [.int .i64 x11.1.in_.At, .int .u8 (x11.1.in_.Op.toNat : Int), .int .i64 x11.1.in_.A, .int .i64 x11.1.in_.B, .int .i64 x11.1.to, .bool x11.1.gone], Blk g9 94 [v2], Sl T_opt_item v2 s1.1, Blk g54 93 [v45], Sl Ty.bool v45 x41] := s166
            have s167 : SL w FF _ [Blk g9 94 [v2], Sl T_opt_item v2 s1.1, Blk g54 93 [v45], Sl Ty.bool v45 x41] := s166.drop
            refine kq_end ⟨s167, ?_⟩
            refine hd_one (i := 17) rfl (by kernel_rfl) ?_
            refine st_op F150 (ex_asg rfl) rfl rfl rfl fun q151 F151 => ?_
            have s168 : SL w FF _ [Blk g9 94 [v2], Sl T_opt_item v2 s1.1, Blk g54 93 [v45], Sl Ty.bool v45 x41] := s166.drop
            refine kq_end ⟨s168, ?_⟩
            refine hd_done (by kernel_rfl) ?_
            obtain rfl := some_ok H
            refine then_n ?_
            exact ⟨g13, F151.sub ⟨rfl, rfl, rfl, rfl, rfl, rfl, trivial⟩, s166.f4.f4.f4.f4⟩
          ·refine st_alloc F130 s131 Fx.zero121 rfl rfl fun g14 w42 q152 F152 s169 => ?_
           have s170 : SL w FF _ [Blk g9 94 [v2], Sl T_opt_item v2 s1.1, Blk g54 93 [v45], Sl Ty.bool v45 x41] := s169.drop
           refine kq_end ⟨s170, ?_⟩
           refine hd_many (rs := [13, 14]) (by kernel_rfl) (by decide) (hd_cons (wpOp_of rfl ?_) (hd_cons (wpOp_of rfl ?_) (hd_nil)))
           ·refine st_op F152 (ex_extract (v := .agg ⟨[.int .i64 x11.1.in_.At, .int .u8 (x11.1.in_.Op.toNat : Int), .int .i64 x11.1.in_.A, .int .i64 x11.1.in_.B, .int .i64 x11.1.to, .bool x11.1.gone]⟩) rfl rfl) rfl rfl rfl fun q153 F153 => ?_
            have s171 : SL w FF _ [Blk g9 94 [v2], Sl T_opt_item v2 s1.1, Blk g54 93 [v45], Sl Ty.bool v45 x41] := s169.drop
            refine kq_end ⟨s171, ?_⟩
            refine hd_many (rs := [14, 16]) (by kernel_rfl) (by decide) (hd_cons (wpOp_of rfl ?_) (hd_cons (wpOp_of rfl ?_) (hd_nil)))
            ·refine st_op F153 (ex_extract (v := .bool x11.2) rfl rfl) rfl rfl rfl fun q154 F154 => ?_
             have s172 : SL w FF _ [Blk g9 94 [v2], Sl T_opt_item v2 s1.1, Blk g54 93 [v45], Sl Ty.bool v45 x41] := s169.drop
             refine kq_end ⟨s172, ?_⟩
             refine hd_one (i := 16) rfl (by kernel_rfl) ?_
             have s173 := s169
             refine st_storea F154 s173 rfl rfl Fx.sz121 (one_cons rfl (one_cons rfl (one_cons rfl (one_cons rfl (one_cons rfl (one_cons rfl one_nil)))))) (Nat.le_of_ble_eq_true rfl) fun w43 q155 F155 s174 => ?_
             replace s174 : SL w FF w43 [Blk g14 121 [.int .i64 x11.1.in_.At, .int .u8 (x11.1.in_.Op.toNat : Int), .int .i64 x11.1.in_.A, .int .i64 x11.1.in_.B, .int .i64 x11.1.to, .bool x11.1.gone], Blk g9 94 [v2], Sl T_opt_item v2 s1.1, Blk g54 93 [v45], Sl Ty.bool v45 x41] := s174
             have s175 : SL w FF _ [Blk g9 94 [v2], Sl T_opt_item v2 s1.1, Blk g54 93 [v45], Sl Ty.bool v45 x41] := s174.drop
             refine kq_end ⟨s175, ?_⟩
             refine hd_one (i := 17) rfl (by kernel_rfl) ?_
             refine st_op F155 (ex_asg rfl) rfl rfl rfl fun q156 F156 => ?_
             have s176 : SL w FF _ [Blk g9 94 [v2], Sl T_opt_item v2 s1.1, Blk g54 93 [v45], Sl Ty.bool v45 x41] := s174.drop
             refine kq_end ⟨s176, ?_⟩
             refine hd_done (by kernel_rfl) ?_
             obtain rfl := some_ok H
             refine then_n ?_
             exact ⟨g14, F156.sub ⟨rfl, rfl, rfl, rfl, rfl, rfl, trivial⟩, s174.f4.f4.f4.f4⟩
            ·have s177 := s169
             refine st_storea F153 s177 rfl rfl Fx.sz121 (one_cons rfl (one_cons rfl (one_cons rfl (one_cons rfl (one_cons rfl (one_cons rfl one_nil)))))) (Nat.le_of_ble_eq_true rfl) fun w44 q157 F157 s178 => ?_
             replace s178 : SL w FF w44 [Blk g14 121 [.int .i64 x11.1.in_.At, .int .u8 (x11.1.in_.Op.toNat : Int), .int .i64 x11.1.in_.A, .int .i64 x11.1.in_.B, .int .i64 x11.1.to, .bool x11.1.gone], Blk g9 94 [v2], Sl T_opt_item v2 s1.1, Blk g54 93 [v45], Sl Ty.bool v45 x41] := s178
             have s179 : SL w FF _ [Blk g9 94 [v2], Sl T_opt_item v2 s1.1, Blk g54 93 [v45], Sl Ty.bool v45 x41] := s178.drop
             refine kq_end ⟨s179, ?_⟩
             refine hd_one (i := 14) rfl (by kernel_rfl) ?_
             refine st_op F157 (ex_extract (v := .bool x11.2) rfl rfl) rfl rfl rfl fun q158 F158 => ?_
             have s180 : SL w FF _ [Blk g9 94 [v2], Sl T_opt_item v2 s1.1, Blk g54 93 [v45], Sl Ty.bool v45 x41] := s178.drop
             refine kq_end ⟨s180, ?_⟩
             refine hd_one (i := 17) rfl (by kernel_rfl) ?_
             refine st_op F158 (ex_asg rfl) rfl rfl rfl fun q159 F159 => ?_
             have s181 : SL w FF _ [Blk g9 94 [v2], Sl T_opt_item v2 s1.1, Blk g54 93 [v45], Sl Ty.bool v45 x41] := s178.drop
             refine kq_end ⟨s181, ?_⟩
             refine hd_done (by kernel_rfl) ?_
             obtain rfl := some_ok H
             refine then_n ?_
             exact ⟨g14, F159.sub ⟨rfl, rfl, rfl, rfl, rfl, rfl, trivial⟩, s178.f4.f4.f4.f4⟩
           ·refine st_op F152 (ex_extract (v := .bool x11.2) rfl rfl) rfl rfl rfl fun q160 F160 => ?_
            have s182 : SL w FF _ [Blk g9 94 [v2], Sl T_opt_item v2 s1.1, Blk g54 93 [v45], Sl Ty.bool v45 x41] := s169.drop
            refine kq_end ⟨s182, ?_⟩
            refine hd_one (i := 13) rfl (by kernel_rfl) ?_
            refine st_op F160 (ex_extract (v := .agg ⟨[.int .i64 x11.1.in_.At, .int .u8 (x11.1.in_.Op.toNat : Int), .int .i64 x11.1.in_.A, .int .i64 x11.1.in_.B, .int .i64 x11.1.to, .bool x11.1.gone]⟩) rfl rfl) rfl rfl rfl fun q161 F161 => ?_
            have s183 : SL w FF _ [Blk g9 94 [v2], Sl T_opt_item v2 s1.1, Blk g54 93 [v45], Sl Ty.bool v45 x41] := s169.drop
            refine kq_end ⟨s183, ?_⟩
            refine hd_one (i := 16) rfl (by kernel_rfl) ?_
            have s184 := s169
            refine st_storea F161 s184 rfl rfl Fx.sz121 (one_cons rfl (one_cons rfl (one_cons rfl (one_cons rfl (one_cons rfl (one_cons rfl one_nil)))))) (Nat.le_of_ble_eq_true rfl) fun w45 q162 F162 s185 => ?_
            replace s185 : SL w FF w45 [Blk g14 121 [.int .i64 x11.1.in_.At, .int .u8 (x11.1.in_.Op.toNat : Int), .int .i64 x11.1.in_.A, .int .i64 x11.1.in_.B, .int .i64 x11.1.to, .bool x11.1.gone], Blk g9 94 [v2], Sl T_opt_item v2 s1.1, Blk g54 93 [v45], Sl Ty.bool v45 x41] := s185
            have s186 : SL w FF _ [Blk g9 94 [v2], Sl T_opt_item v2 s1.1, Blk g54 93 [v45], Sl Ty.bool v45 x41] := s185.drop
            refine kq_end ⟨s186, ?_⟩
            refine hd_one (i := 17) rfl (by kernel_rfl) ?_
            refine st_op F162 (ex_asg rfl) rfl rfl rfl fun q163 F163 => ?_
            have s187 : SL w FF _ [Blk g9 94 [v2], Sl T_opt_item v2 s1.1, Blk g54 93 [v45], Sl Ty.bool v45 x41] := s185.drop
            refine kq_end ⟨s187, ?_⟩
            refine hd_done (by kernel_rfl) ?_
            obtain rfl := some_ok H
            refine then_n ?_
            exact ⟨g14, F163.sub ⟨rfl, rfl, rfl, rfl, rfl, rfl, trivial⟩, s185.f4.f4.f4.f4⟩
         ·refine st_alloc F129 s131 Fx.zero121 rfl rfl fun g15 w47 q164 F164 s188 => ?_
          have s189 : SL w FF _ [Blk g9 94 [v2], Sl T_opt_item v2 s1.1, Blk g54 93 [v45], Sl Ty.bool v45 x41] := s188.drop
          refine kq_end ⟨s189, ?_⟩
          refine hd_one (i := 12) rfl (by kernel_rfl) ?_
          refine st_op F164 (ex_move rfl) rfl rfl rfl fun q165 F165 => ?_
          have s190 : SL w FF _ [Blk g9 94 [v2], Sl T_opt_item v2 s1.1, Blk g54 93 [v45], Sl Ty.bool v45 x41] := s188.drop
          refine kq_end ⟨s190, ?_⟩
          refine hd_many (rs := [13, 14]) (by kernel_rfl) (by decide) (hd_cons (wpOp_of rfl ?_) (hd_cons (wpOp_of rfl ?_) (hd_nil)))
          ·refine st_op F165 (ex_extract (v := .agg ⟨[.int .i64 x11.1.in_.At, .int .u8 (x11.1.in_.Op.toNat : Int), .int .i64 x11.1.in_.A, .int .i64 x11.1.in_.B, .int .i64 x11.1.to, .bool x11.1.gone]⟩) rfl rfl) rfl rfl rfl fun q166 F166 => ?_
           have s191 : SL w FF _ [Blk g9 94 [v2], Sl T_opt_item v2 s1.1, Blk g54 93 [v45], Sl Ty.bool v45 x41] := s188.drop
           refine kq_end ⟨s191, ?_⟩
           refine hd_many (rs := [14, 16]) (by kernel_rfl) (by decide) (hd_cons (wpOp_of rfl ?_) (hd_cons (wpOp_of rfl ?_) (hd_nil)))
           ·refine st_op F166 (ex_extract (v := .bool x11.2) rfl rfl) rfl rfl rfl fun q167 F167 => ?_
            have s192 : SL w FF _ [Blk g9 94 [v2], Sl T_opt_item v2 s1.1, Blk g54 93 [v45], Sl Ty.bool v45 x41] := s188.drop
            refine kq_end ⟨s192, ?_⟩
            refine hd_one (i := 16) rfl (by kernel_rfl) ?_
            have s193 := s188
            refine st_storea F167 s193 rfl rfl Fx.sz121 (one_cons rfl (one_cons rfl (one_cons rfl (one_cons rfl (one_cons rfl (one_cons rfl one_nil)))))) (Nat.le_of_ble_eq_true rfl) fun w48 q168 F168 s194 => ?_
            replace s194 : SL w FF w48 [Blk g15 121 [.int .i64 x11.1.in_.At, .int .u8 (x11.1.in_.Op.toNat : Int), .int .i64 x11.1.in_.A, .int .i64 x11.1.in_.B, .int .i64 x11.1.to, .bool x11.1.gone], Blk g9 94 [v2], Sl T_opt_item v2 s1.1, Blk g54 93 [v45], Sl Ty.bool v45 x41] := s194
            have s195 : SL w FF _ [Blk g9 94 [v2], Sl T_opt_item v2 s1.1, Blk g54 93 [v45], Sl Ty.bool v45 x41] := s194.drop
            refine kq_end ⟨s195, ?_⟩
            refine hd_one (i := 17) rfl (by kernel_rfl) ?_
            refine st_op F168 (ex_asg rfl) rfl rfl rfl fun q169 F169 => ?_
            have s196 : SL w FF _ [Blk g9 94 [v2], Sl T_opt_item v2 s1.1, Blk g54 93 [v45], Sl Ty.bool v45 x41] := s194.drop
            refine kq_end ⟨s196, ?_⟩
            refine hd_done (by kernel_rfl) ?_
            obtain rfl := some_ok H
            refine then_n ?_
            exact ⟨g15, F169.sub ⟨rfl, rfl, rfl, rfl, rfl, rfl, trivial⟩, s194.f4.f4.f4.f4⟩
           ·have s197 := s188
            refine st_storea F166 s197 rfl rfl Fx.sz121 (one_cons rfl (one_cons rfl (one_cons rfl (one_cons rfl (one_cons rfl (one_cons rfl one_nil)))))) (Nat.le_of_ble_eq_true rfl) fun w49 q170 F170 s198 => ?_
            replace s198 : SL w FF w49 [Blk g15 121 [.int .i64 x11.1.in_.At, .int .u8 (x11.1.in_.Op.toNat : Int), .int .i64 x11.1.in_.A, .int .i64 x11.1.in_.B, .int .i64 x11.1.to, .bool x11.1.gone], Blk g9 94 [v2], Sl T_opt_item v2 s1.1, Blk g54 93 [v45], Sl Ty.bool v45 x41] := s198
            have s199 : SL w FF _ [Blk g9 94 [v2], Sl T_opt_item v2 s1.1, Blk g54 93 [v45], Sl Ty.bool v45 x41] := s198.drop
            refine kq_end ⟨s199, ?_⟩
            refine hd_one (i := 14) rfl (by kernel_rfl) ?_
            refine st_op F170 (ex_extract (v := .bool x11.2) rfl rfl) rfl rfl rfl fun q171 F171 => ?_
            have s200 : SL w FF _ [Blk g9 94 [v2], Sl T_opt_item v2 s1.1, Blk g54 93 [v45], Sl Ty.bool v45 x41] := s198.drop
            refine kq_end ⟨s200, ?_⟩
            refine hd_one (i := 17) rfl (by kernel_rfl) ?_
            refine st_op F171 (ex_asg rfl) rfl rfl rfl fun q172 F172 => ?_
            have s201 : SL w FF _ [Blk g9 94 [v2], Sl T_opt_item v2 s1.1, Blk g54 93 [v45], Sl Ty.bool v45 x41] := s198.drop
            refine kq_end ⟨s201, ?_⟩
            refine hd_done (by kernel_rfl) ?_
            obtain rfl := some_ok H
            refine then_n ?_
            exact ⟨g15, F172.sub ⟨rfl, rfl, rfl, rfl, rfl, rfl, trivial⟩, s198.f4.f4.f4.f4⟩
          ·refine st_op F165 (ex_extract (v := .bool x11.2) rfl rfl) rfl rfl rfl fun q173 F173 => ?_
           have s202 : SL w FF _ [Blk g9 94 [v2], Sl T_opt_item v2 s1.1, Blk g54 93 [v45], Sl Ty.bool v45 x41] := s188.drop
           refine kq_end ⟨s202, ?_⟩
           refine hd_one (i := 13) rfl (by kernel_rfl) ?_
           refine st_op F173 (ex_extract (v := .agg ⟨[.int .i64 x11.1.in_.At, .int .u8 (x11.1.in_.Op.toNat : Int), .int .i64 x11.1.in_.A, .int .i64 x11.1.in_.B, .int .i64 x11.1.to, .bool x11.1.gone]⟩) rfl rfl) rfl rfl rfl fun q174 F174 => ?_
           have s203 : SL w FF _ [Blk g9 94 [v2], Sl T_opt_item v2 s1.1, Blk g54 93 [v45], Sl Ty.bool v45 x41] := s188.drop
           refine kq_end ⟨s203, ?_⟩
           refine hd_one (i := 16) rfl (by kernel_rfl) ?_
           have s204 := s188
           refine st_storea F174 s204 rfl rfl Fx.sz121 (one_cons rfl (one_cons rfl (one_cons rfl (one_cons rfl (one_cons rfl (one_cons rfl one_nil)))))) (Nat.le_of_ble_eq_true rfl) fun w50 q175 F175 s205 => ?_
           replace s205 : SL w FF w50 [Blk g15 121 [.int .i64 x11.1.in_.At, .int .u8 (x11.1.in_.Op.toNat : Int), .int .i64 x11.1.in_.A, .int .i64 x11.1.in_.B, .int .i64 x11.1.to, .bool x11.1.gone], Blk g9 94 [v2], Sl T_opt_item v2 s1.1, Blk g54 93 [v45], Sl Ty.bool v45 x41] := s205
           have s206 : SL w FF _ [Blk g9 94 [v2], Sl T_opt_item v2 s1.1, Blk g54 93 [v45], Sl Ty.bool v45 x41] := s205.drop
           refine kq_end ⟨s206, ?_⟩
           refine hd_one (i := 17) rfl (by kernel_rfl) ?_
           refine st_op F175 (ex_asg rfl) rfl rfl rfl fun q176 F176 => ?_
           have s207 : SL w FF _ [Blk g9 94 [v2], Sl T_opt_item v2 s1.1, Blk g54 93 [v45], Sl Ty.bool v45 x41] := s205.drop
           refine kq_end ⟨s207, ?_⟩
           refine hd_done (by kernel_rfl) ?_
           obtain rfl := some_ok H
           refine then_n ?_
           exact ⟨g15, F176.sub ⟨rfl, rfl, rfl, rfl, rfl, rfl, trivial⟩, s205.f4.f4.f4.f4⟩
        ·refine st_alloc F128 s129 Fx.zero121 rfl rfl fun g16 w51 q177 F177 s208 => ?_
         have s209 : SL w FF _ [Blk g9 94 [v2], Sl T_opt_item v2 s1.1, Blk g54 93 [v45], Sl Ty.bool v45 x41] := s208.drop
         refine kq_end ⟨s209, ?_⟩
         refine hd_one (i := 11) rfl (by kernel_rfl) ?_
         refine st_call (args := [.tmp 73, .tmp 79]) F177 Fx.fn99 rfl (opt_two_c (a0 := (⟨x9.in_.At, x9.in_.Op, x9.in_.A, x9.in_.B⟩ : S_api_Instr)) (a1 := (⟨x10.in_.At, x10.in_.Op, x10.in_.A, x10.in_.B⟩ : S_api_Instr))   hx11) rfl fun v9 w52 q178 hS5 F178 => ?_
         obtain ⟨rfl, hq5⟩ := hS5
         have s210 := s208.add hq5
         have s211 : SL w FF _ [Blk g9 94 [v2], Sl T_opt_item v2 s1.1, Blk g54 93 [v45], Sl Ty.bool v45 x41] := s210.drop
         refine kq_end ⟨s211, ?_⟩
         refine hd_one (i := 12) rfl (by kernel_rfl) ?_
         refine st_op F178 (ex_move rfl) rfl rfl rfl fun q179 F179 => ?_
         have s212 : SL w FF _ [Blk g9 94 [v2], Sl T_opt_item v2 s1.1, Blk g54 93 [v45], Sl Ty.bool v45 x41] := s210.drop
         refine kq_end ⟨s212, ?_⟩
         refine hd_many (rs := [13, 14]) (by kernel_rfl) (by decide) (hd_cons (wpOp_of rfl ?_) (hd_cons (wpOp_of rfl ?_) (hd_nil)))
         ·refine st_op F179 (ex_extract (v := .agg ⟨[.int .i64 x11.1.in_.At, .int .u8 (x11.1.in_.Op.toNat : Int), .int .i64 x11.1.in_.A, .int .i64 x11.1.in_.B, .int .i64 x11.1.to, .bool x11.1.gone]⟩) rfl rfl) rfl rfl rfl fun q180 F180 => ?_
          have s213 : SL w FF _ [Blk g9 94 [v2], Sl T_opt_item v2 s1.1, Blk g54 93 [v45], Sl Ty.bool v45 x41] := s210.drop
          refine kq_end ⟨s213, ?_⟩
          refine hd_many (rs := [14, 16]) (by kernel_rfl) (by decide) (hd_cons (wpOp_of rfl ?_) (hd_cons (wpOp_of rfl ?_) (hd_nil)))
          ·refine st_op F180 (ex_extract (v := .bool x11.2) rfl rfl) rfl rfl rfl fun q181 F181 => ?_
           have s214 : SL w FF _ [Blk g9 94 [v2], Sl T_opt_item v2 s1.1, Blk g54 93 [v45], Sl Ty.bool v45 x41] := s210.drop
           refine kq_end ⟨s214, ?_⟩
           refine hd_one (i := 16) rfl (by kernel_rfl) ?_
           have s215 := s210
           refine st_storea F181 s215 rfl rfl Fx.sz121 (one_cons rfl (one_cons rfl (one_cons rfl (one_cons rfl (one_cons rfl (one_cons rfl one_nil)))))) (Nat.le_of_ble_eq_true rfl) fun w53 q182 F182 s216 => ?_
           replace s216 : SL w FF w53 [Blk g16 121 [.int .i64 x11.1.in_.At, .int .u8 (x11.1.in_.Op.toNat : Int), .int .i64 x11.1.in_.A, .int .i64 x11.1.in_.B, .int .i64 x11.1.to, .bool x11.1.gone], Blk g9 94 [v2], Sl T_opt_item v2 s1.1, Blk g54 93 [v45], Sl Ty.bool v45 x41] := s216
           have s217 : SL w FF _ [Blk g9 94 [v2], Sl T_opt_item v2 s1.1, Blk g54 93 [v45], Sl Ty.bool v45 x41] := s216.drop
           refine kq_end ⟨s217, ?_⟩
           refine hd_one (i := 17) rfl (by kernel_rfl) ?_
           refine st_op F182 (ex_asg rfl) rfl rfl rfl fun q183 F183 => ?_
           have s218 : SL w FF _ [Blk g9 94 [v2], Sl T_opt_item v2 s1.1, Blk g54 93 [v45], Sl Ty.bool v45 x41] := s216.drop
           refine kq_end ⟨s218, ?_⟩
           refine hd_done (by kernel_rfl) ?_
           obtain rfl := some_ok H
           refine then_n ?_
           exact ⟨g16, F183.sub ⟨rfl, rfl, rfl, rfl, rfl, rfl, trivial⟩, s216.f4.f4.f4.f4⟩
          ·have s219 := s210
           refine st_storea F180 s219 rfl rfl Fx.sz121 (one_cons rfl (one_cons rfl (one_cons rfl (one_cons rfl (one_cons rfl (one_cons rfl one_nil)))))) (Nat.le_of_ble_eq_true rfl) fun w54 q184 F184 s220 => ?_
           replace s220 : SL w FF w54 [Blk g16 121 [.int .i64 x11.1.in_.At, .int .u8 (x11.1.in_.Op.toNat : Int), .int .i64 x11.1.in_.A, .int .i64 x11.1.in_.B, .int .i64 x11.1.to, .bool x11.1.gone], Blk g9 94 [v2], Sl T_opt_item v2 s1.1, Blk g54 93 [v45], Sl Ty.bool v45 x41] := s220
           have s221 : SL w FF _ [Blk g9 94 [v2], Sl T_opt_item v2 s1.1, Blk g54 93 [v45], Sl Ty.bool v45 x41] := s220.drop
           refine kq_end ⟨s221, ?_⟩
           refine hd_one (i := 14) rfl (by kernel_rfl) ?_
           refine st_op F184 (ex_extract (v := .bool x11.2) rfl rfl) rfl rfl rfl fun q185 F185 => ?_
           have s222 : SL w FF _ [Blk g9 94 [v2], Sl T_opt_item v2 s1.1, Blk g54 93 [v45], Sl Ty.bool v45 x41] := s220.drop
           refine kq_end ⟨s222, ?_⟩
           refine hd_one (i := 17) rfl (by kernel_rfl) ?_
           refine st_op F185 (ex_asg rfl) rfl rfl rfl fun q186 F186 => ?_
           have s223 : SL w FF _ [Blk g9 94 [v2], Sl T_opt_item v2 s1.1, Blk g54 93 [v45], Sl Ty.bool v45 x41] := s220.drop
           refine kq_end ⟨s223, ?_⟩
           refine hd_done (by kernel_rfl) ?_
           obtain rfl := some_ok H
           refine then_n ?_
           exact ⟨g16, F186.sub ⟨rfl, rfl, rfl, rfl, rfl, rfl, trivial⟩, s220.f4.f4.f4.f4⟩
         ·refine st_op F179 (ex_extract (v := .bool x11.2) rfl rfl) rfl rfl rfl fun q187 F187 => ?_
          have s224 : SL w FF _ [Blk g9 94 [v2], Sl T_opt_item v2 s1.1, Blk g54 93 [v45], Sl Ty.bool v45 x41] := s210.drop
          refine kq_end ⟨s224, ?_⟩
          refine hd_one (i := 13) rfl (by kernel_rfl) ?_
          refine st_op F187 (ex_extract (v := .agg ⟨[.int .i64 x11.1.in_.At, .int .u8 (x11.1.in_.Op.toNat : Int), .int .i64 x11.1.in_.A, .int .i64 x11.1.in_.B, .int .i64 x11.1.to, .bool x11.1.gone]⟩) rfl rfl) rfl rfl rfl fun q188 F188 => ?_
          have s225 : SL w FF _ [Blk g9 94 [v2], Sl T_opt_item v2 s1.1, Blk g54 93 [v45], Sl Ty.bool v45 x41] := s210.drop
          refine kq_end ⟨s225, ?_⟩
          refine hd_one (i := 16) rfl (by kernel_rfl) ?_
          have s226 := s210
          refine st_storea F188 s226 rfl rfl Fx.sz121 (one_cons rfl (one_cons rfl (one_cons rfl (one_cons rfl (one_cons rfl (one_cons rfl one_nil)))))) (Nat.le_of_ble_eq_true rfl) fun w56 q189 F189 s227 => ?_
          replace s227 : SL w FF w56 [Blk g16 121 [.int .i64 x11.1.in_.At, .int .u8 (x11.1.in_.Op.toNat : Int), .int .i64 x11.1.in_.A, .int .i64 x11.1.in_.B, .int .i64 x11.1.to, .bool x11.1.gone], Blk g9 94 [v2], Sl T_opt_item v2 s1.1, Blk g54 93 [v45], Sl Ty.bool v45 x41] := s227
          have s228 : SL w FF _ [Blk g9 94 [v2], Sl T_opt_item v2 s1.1, Blk g54 93 [v45], Sl Ty.bool v45 x41] := s227.drop
          refine kq_end ⟨s228, ?_⟩
          refine hd_one (i := 17) rfl (by kernel_rfl) ?_
          refine st_op F189 (ex_asg rfl) rfl rfl rfl fun q190 F190 => ?_
          have s229 : SL w FF _ [Blk g9 94 [v2], Sl T_opt_item v2 s1.1, Blk g54 93 [v45], Sl Ty.bool v45 x41] := s227.drop
          refine kq_end ⟨s229, ?_⟩
          refine hd_done (by kernel_rfl) ?_
          obtain rfl := some_ok H
          refine then_n ?_
          exact ⟨g16, F190.sub ⟨rfl, rfl, rfl, rfl, rfl, rfl, trivial⟩, s227.f4.f4.f4.f4⟩
       ·intro q191 w57 hJ
        obtain ⟨g8, F191, s230⟩ := hJ
        have H := R4
        clear R4 H4
        refine then_n <| wp_seq <| wp_reg ?_
        refine st_pr F191 (PR.op (ex_move rfl) <| PR.nil) fun q192 F192 => ?_
        refine st_end <| then_n ?_
        refine wp_if F192 rfl (fun hb4 => ?_) (fun hb4 => ?_)
        ·replace H := ite_t hb4 H
         refine wp_seq ?_
         obtain ⟨x12, hx12, H⟩ := bind_ok H
         obtain ⟨x13, hx13, H⟩ := bind_ok H
         refine wp_regh Fx.mixed (fun w_ => SL w FF w_ [Blk g9 94 [v2], Blk g54 93 [v45], Sl Ty.bool v45 x41, Blk g8 121 [.int .i64 o5.1, .int .u8 (o5.2.1.toNat : Int), .int .i64 o5.2.2.1, .int .i64 o5.2.2.2.1, .int .i64 o5.2.2.2.2.1, .bool o5.2.2.2.2.2.1]]) ?_
         have s231 := s230.drew
         have s232 : SL w FF _ [Blk g9 94 [v2], Blk g54 93 [v45], Sl Ty.bool v45 x41, Blk g8 121 [.int .i64 o5.1, .int .u8 (o5.2.1.toNat : Int), .int .i64 o5.2.2.1, .int .i64 o5.2.2.2.1, .int .i64 o5.2.2.2.2.1, .bool o5.2.2.2.2.2.1]] := s231.f1.drop
         refine hd_take (i := 0) rfl (by kernel_rfl) (by kernel_rfl) (by kernel_rfl) (fun _ hC => ex_ld Fx.nag94 rfl (hC.blk_cell (.head _) rfl)) rfl rfl rfl F192 s232 fun q193 F193 => ?_
         refine hd_take (i := 1) rfl (by kernel_rfl) (by kernel_rfl) (by kernel_rfl) (fun _ hC => ex_move rfl) rfl rfl rfl F193 s232 fun q194 F194 => ?_
         refine hd_take (i := 2) rfl (by kernel_rfl) (by kernel_rfl) (by kernel_rfl) (fun _ hC => ex_ld Fx.nag94 rfl (hC.blk_cell (.head _) rfl)) rfl rfl rfl F194 s232 fun q195 F195 => ?_
         refine hd_take (i := 3) rfl (by kernel_rfl) (by kernel_rfl) (by kernel_rfl) (fun _ hC => ex_move rfl) rfl rfl rfl F195 s232 fun q196 F196 => ?_
         refine hd_take (i := 4) rfl (by kernel_rfl) (by kernel_rfl) (by kernel_rfl) (fun _ hC => ex_add rfl rfl) rfl rfl rfl F196 s232 fun q197 F197 => ?_
         refine hd_take (i := 5) rfl (by kernel_rfl) (by kernel_rfl) (by kernel_rfl) (fun _ hC => ex_ldagg Fx.agg121 rfl (hC.blk_cells (.tail _ <| .tail _ <| .tail _ <| .head _) (o := 0) (ds := [.int .i64 o5.1, .int .u8 (o5.2.1.toNat : Int), .int .i64 o5.2.2.1, .int .i64 o5.2.2.2.1, .int .i64 o5.2.2.2.2.1, .bool o5.2.2.2.2.2.1]) (fun j u hu => by rw [Nat.zero_add]; exact hu)) rfl) rfl rfl rfl F197 s232 fun q198 F198 => ?_
         refine hd_one (i := 6) rfl (by kernel_rfl) ?_
         obtain ⟨a11, hi8, he3⟩ := own_idx F_opt_item s231 (.tail _ <| .head _) Fx.sl94 rfl hx12
         refine st_op F198 (hi8 _ _ _ _ _ _ _ _ _ _ rfl rfl) rfl rfl rfl fun q199 F199 => ?_
         have s233 : SL w FF _ [Blk g9 94 [v2], Blk g54 93 [v45], Sl Ty.bool v45 x41, Blk g8 121 [.int .i64 o5.1, .int .u8 (o5.2.1.toNat : Int), .int .i64 o5.2.2.1, .int .i64 o5.2.2.2.1, .int .i64 o5.2.2.2.2.1, .bool o5.2.2.2.2.2.1]] := s231.f1.drop
         refine kq_end ⟨s233, ?_⟩
         refine hd_one (i := 7) rfl (by kernel_rfl) ?_
         refine st_setel (y' := (⟨(⟨o5.1, o5.2.1, o5.2.2.1, o5.2.2.2.1⟩ : S_api_Instr), o5.2.2.2.2.1, o5.2.2.2.2.2.1⟩ : S_opt_item)) F_opt_item F199 s231.f1 he3 hx12 rfl rfl (by rfl) Fx.sz121 fun w58 q200 F200 s234 => ?_
         have s235 : SL w FF _ [Blk g9 94 [v2], Blk g54 93 [v45], Sl Ty.bool v45 x41, Blk g8 121 [.int .i64 o5.1, .int .u8 (o5.2.1.toNat : Int), .int .i64 o5.2.2.1, .int .i64 o5.2.2.2.1, .int .i64 o5.2.2.2.2.1, .bool o5.2.2.2.2.2.1]] := s234.drop
         refine kq_end ⟨s235, ?_⟩
         refine hd_one (i := 8) rfl (by kernel_rfl) ?_
         obtain ⟨a12, hi9, he4⟩ := own_idx F_opt_item s234 (.head _) Fx.sl94 rfl hx13
         refine st_op F200 (hi9 _ _ _ _ _ _ _ _ _ _ rfl rfl) rfl rfl rfl fun q201 F201 => ?_
         have s236 : SL w FF _ [Blk g9 94 [v2], Blk g54 93 [v45], Sl Ty.bool v45 x41, Blk g8 121 [.int .i64 o5.1, .int .u8 (o5.2.1.toNat : Int), .int .i64 o5.2.2.1, .int .i64 o5.2.2.2.1, .int .i64 o5.2.2.2.2.1, .bool o5.2.2.2.2.2.1]] := s234.drop
         refine kq_end ⟨s236, ?_⟩
         refine hd_one (i := 9) rfl (by kernel_rfl) ?_
         refine st_op F201 (ex_fa Fx.fa121_2 rfl) rfl rfl rfl fun q202 F202 => ?_
         have s237 : SL w FF _ [Blk g9 94 [v2], Blk g54 93 [v45], Sl Ty.bool v45 x41, Blk g8 121 [.int .i64 o5.1, .int .u8 (o5.2.1.toNat : Int), .int .i64 o5.2.2.1, .int .i64 o5.2.2.2.1, .int .i64 o5.2.2.2.2.1, .bool o5.2.2.2.2.2.1]] := s234.drop
         refine kq_end ⟨s237, ?_⟩
         refine hd_one (i := 10) rfl (by kernel_rfl) ?_
         refine st_setfld (y' := (⟨(⟨x13.in_.At, x13.in_.Op, x13.in_.A, x13.in_.B⟩ : S_api_Instr), x13.to, true⟩ : S_opt_item)) (o := 5) (ds := [.bool true]) F_opt_item F202 s234 he4 hx13 rfl rfl (by rfl) Fx.sz4 (by rfl) (one_cons rfl one_nil) (by rfl) fun w59 q203 F203 s238 => ?_
         have s239 : SL w FF _ [Blk g9 94 [v2], Blk g54 93 [v45], Sl Ty.bool v45 x41, Blk g8 121 [.int .i64 o5.1, .int .u8 (o5.2.1.toNat : Int), .int .i64 o5.2.2.1, .int .i64 o5.2.2.2.1, .int .i64 o5.2.2.2.2.1, .bool o5.2.2.2.2.2.1]] := s238.drop
         refine kq_end ⟨s239, ?_⟩
         refine hd_one (i := 11) rfl (by kernel_rfl) ?_
         refine st_op F203 (ex_asg rfl) rfl rfl rfl fun q204 F204 => ?_
         have s240 : SL w FF _ [Blk g9 94 [v2], Blk g54 93 [v45], Sl Ty.bool v45 x41, Blk g8 121 [.int .i64 o5.1, .int .u8 (o5.2.1.toNat : Int), .int .i64 o5.2.2.1, .int .i64 o5.2.2.2.1, .int .i64 o5.2.2.2.2.1, .bool o5.2.2.2.2.2.1]] := s238.drop
         refine kq_end ⟨s240, ?_⟩
         refine hd_done (by kernel_rfl) ?_
         refine then_n <| wp_reg ?_
         refine st_pr F204 (PR.op (ex_move rfl) <| PR.op (ex_add rfl rfl) <| PR.op (ex_asg rfl) <| PR.nil) fun q205 F205 => ?_
         refine st_end ?_
         refine blk_n ?_
         obtain rfl := some_ok H
         refine then_n ?_
         exact ⟨v2, F205.sub ⟨rfl, rfl, rfl, rfl, trivial⟩, s238.f4.drop.f3.f3.f3⟩
        ·replace H := ite_f hb4 H
         refine wp_skip ?_
         refine blk_n ?_
         obtain rfl := some_ok H
         refine then_n ?_
         exact ⟨v2, F192.sub ⟨rfl, rfl, rfl, rfl, trivial⟩, s230.f4.drop.f1.f3.f3.f3⟩
    ·intro q206 w61 hJ
     obtain ⟨v3, F206, s241⟩ := hJ
     have H := R1
     clear R1 H1
     refine then_n <| wp_reg ?_
     refine st_pr F206 (PR.op (ex_move rfl) <| PR.op (ex_add rfl rfl) <| PR.op (ex_asg rfl) <| PR.nil) fun q207 F207 => ?_
     refine st_end ?_
     obtain rfl := some_ok H
     refine then_n ?_
     exact ⟨_, rfl, v3, F207.sub ⟨rfl, rfl, rfl, rfl, trivial⟩, s241.f3.f1.f3.f3⟩
   ·replace H := ite_f hb0 H
    refine wp_exit <| then_x <| then_x <| blk_hit ?_
    obtain rfl := some_ok H
    obtain rfl := hr _ rfl
    refine then_n ?_
    exact ⟨v2, F3.sub ⟨rfl, rfl, trivial⟩, s2.drop⟩
 ·intro q208 w62 hJ
  obtain ⟨v1, F208, s242⟩ := hJ
  have H := R0
  clear R0 H0
  refine then_n <| wp_seq <| wp_reg ?_
  obtain ⟨x14, hx14, H⟩ := bind_ok H
  refine st_pr F208 (PR.op (ex_ld Fx.nag94 rfl (s242.blk_cell (.tail _ <| .head _) rfl)) <| PR.nil) fun q209 F209 => ?_
  refine st_call (args := [.tmp 95]) F209 Fx.fn95 rfl (opt_left_c (a0 := o0.1)  (s242.rd0 (.tail _ <| .tail _ <| .head _)) hx14) rfl fun v10 w63 q210 hS6 F210 => ?_
  obtain ⟨_, rfl, hq6⟩ := hS6
  have s243 := s242.add hq6
  refine st_pr F210 (PR.op (ex_move rfl) <| PR.op (ex_asg rfl) <| PR.op (ex_asg rfl) <| PR.nil) fun q211 F211 => ?_
  refine st_end <| then_n ?_
  obtain rfl := some_ok H
  refine wp_ret ?_
  refine ret_gen (rs := [.tmp 2, .tmp 3]) (vs := [v10, .bool o0.2]) F211 (by rfl) ⟨_, _, rfl, RV.tmp rfl, _, _, rfl, RV.tmp rfl, rfl⟩ ⟨_, rfl, ⟨v10, rfl, s243.f1.drop.f1.drop.f1.drop⟩⟩
-- The walk of proviso/opt.sure.
theorem opt_sure_c {w : World} {FF : List Nat} {v0 : Value} {a0 : List S_opt_item} {r : (List S_opt_item) × Bool} (hst : Star [Sl T_opt_item v0 a0] w FF)  (H : opt_sure a0 = some r) :
  Calls Try.prog 67 #[v0] w (Ret fun u_ w_ => ∃ u0 : Value, u_ = .tuple ⟨[u0, .bool r.2]⟩ ∧ SL w FF w_ [Sl T_opt_item u0 r.1]) := by
 have s0 : SL w FF w [Sl T_opt_item v0 a0] := SL.init w FF hst
 refine call_enter Try.func67 rfl Try.ntmps67 (Nat.le_of_ble_eq_true rfl) (args := [v0]) fun q0 F0 => ?_
 unfold opt_sure at H
 refine wp_seq <| wp_reg ?_
 refine st_pr F0 (PR.op (ex_asg rfl) <| PR.op (ex_asg rfl) <| PR.nil) fun q3 F4 => ?_
 refine st_end <| then_n <| wp_seq <| wp_reg ?_
 obtain ⟨x20, hx21, H⟩ := bind_ok H
 refine st_pr F4 (PR.op (ex_move rfl) <| PR.nil) fun q22 F23 => ?_
 refine st_call (args := [.tmp 8]) F23 Fx.fn96 rfl (opt_led_c (a0 := a0)  (s0.rd0 (.head _)) hx21) rfl fun v24 w25 q26 hS28 F27 => ?_
 obtain ⟨_, rfl, hq30⟩ := hS28
 have s29 := s0.add hq30
 refine st_pr F27 (PR.op (ex_asg rfl) <| PR.nil) fun q33 F34 => ?_
 refine st_end <| then_n <| wp_seq <| wp_reg ?_
 refine st_pr F34 (PR.op (ex_asg rfl) <| PR.nil) fun q37 F38 => ?_
 refine st_end <| then_n <| wp_seq <| wp_seq <| wp_reg ?_
 refine st_pr F38 (PR.op (ex_asg rfl) <| PR.nil) fun q1 F1 => ?_
 refine st_end <| then_n ?_
 obtain ⟨o0, H0, R0⟩ := bind_ok H
 clear H
 refine wp_cutn (fun a w_ => ∃ v1 : Value, Fr a 70 [(0, v1), (5, .bool o0.2)] ∧ SL w FF w_ [Sl T_opt_item v1 o0.1]) ?_ ?_
 ·have H := H0
  refine wp_block ?_
  refine wp_lp (opt_sure_b0 x20) (fun s1 a w_ => ∃ v2 : Value, Fr a 70 [(0, v2), (4, v24), (5, .bool s1.2.1), (6, .int .i64 s1.2.2)] ∧ SL w FF w_ [Sl Ty.bool v24 x20, Sl T_opt_item v2 s1.1]) H ?_ ?_
  ·exact ⟨v0, F1.sub ⟨rfl, rfl, rfl, rfl, trivial⟩, s29⟩
  ·intro s1 q2 w0 hI0 o1 H hr
   obtain ⟨v2, F2, s2⟩ := hI0
   replace H : opt_sure_b0 x20 s1 = some o1 := H
   unfold opt_sure_b0 at H
   refine wp_seq <| wp_seq <| wp_reg ?_
   refine st_pr F2 (PR.op (ex_move rfl) <| PR.op (ex_add rfl rfl) <| PR.op (ex_move rfl) <| PR.op (ex_len rfl Try.underlying94 (formL (s2.own_rd (.tail _ <| .head _)))) <| PR.op (ex_lt rfl rfl) <| PR.nil) fun q4 F3 => ?_
   refine st_end <| then_n ?_
   refine wp_if F3 rfl (fun hb0 => ?_) (fun hb0 => ?_)
   ·replace H := ite_t hb0 H
    refine wp_skip <| then_n <| wp_seq <| wp_block <| wp_seq <| wp_reg ?_
    obtain ⟨x0, hx0, H⟩ := bind_ok H
    obtain ⟨a1, hi0, he0⟩ := own_idx F_opt_item s2 (.tail _ <| .head _) Fx.sl94 rfl hx0
    refine st_pr F3 (PR.op (ex_move rfl) <| PR.op (ex_move rfl) <| PR.op (ex_add rfl rfl) <| PR.op (hi0 _ _ _ _ _ _ _ _ _ _ rfl rfl) <| PR.op (ex_ldagg Fx.agg121 rfl (SL.elcells F_opt_item s2 (.tail _ <| .head _) he0 hx0) rfl) <| PR.nil) fun q5 F5 => ?_
    refine st_alloc F5 s2 Fx.zero121 rfl rfl fun g0 w1 q6 F6 s3 => ?_
    have s4 := s3
    refine st_storea F6 s4 rfl rfl Fx.sz121 (one_cons rfl (one_cons rfl (one_cons rfl (one_cons rfl (one_cons rfl (one_cons rfl one_nil)))))) (Nat.le_of_ble_eq_true rfl) fun w2 q7 F7 s5 => ?_
    replace s5 : SL w FF w2 [Blk g0 121 [.int .i64 x0.in_.At, .int .u8 (x0.in_.Op.toNat : Int), .int .i64 x0.in_.A, .int .i64 x0.in_.B, .int .i64 x0.to, .bool x0.gone], Sl Ty.bool v24 x20, Sl T_opt_item v2 s1.1] := s5
    refine st_end <| then_n <| wp_seq <| wp_seq <| wp_reg ?_
    obtain ⟨x1, hx1, H⟩ := bind_ok H
    obtain ⟨a2, hi1, he1⟩ := own_idx F_opt_item s5 (.tail _ <| .tail _ <| .head _) Fx.sl94 rfl hx1
    refine st_pr F7 (PR.op (ex_move rfl) <| PR.op (ex_move rfl) <| PR.op (hi1 _ _ _ _ _ _ _ _ _ _ rfl rfl) <| PR.op (ex_fa Fx.fa121_0 rfl) <| PR.op (ex_fae Fx.fa90_1 rfl rfl) <| PR.op (ex_ld Fx.nag5 rfl (Cells.at_ (SL.elcells F_opt_item s5 (.tail _ <| .tail _ <| .head _) he1 hx1) (o := 1) rfl)) <| PR.op (ex_ne rfl rfl) <| PR.op (ex_move rfl) <| PR.nil) fun q8 F8 => ?_
    refine bool_split ((x1.in_.Op.toNat : Int) != 2) (fun hb1 => ?_) (fun hb1 => ?_)
    ·replace H := ite_t hb1 H
     refine st_gskip F8 rfl rfl (look_b rfl hb1) Bool.noConfusion rfl rfl fun q9 F9 => ?_
     refine st_gskip F9 rfl rfl (look_b rfl hb1) Bool.noConfusion rfl rfl fun q10 F10 => ?_
     refine st_gskip F10 rfl rfl (look_b rfl hb1) Bool.noConfusion rfl rfl fun q11 F11 => ?_
     refine st_gskip F11 rfl rfl (look_b rfl hb1) Bool.noConfusion rfl rfl fun q12 F12 => ?_
     refine st_pr F12 (PR.op (ex_pick_t (ev_b rfl hb1) rfl) <| PR.op (ex_move rfl) <| PR.nil) fun q13 F13 => ?_
     refine st_gskip F13 rfl rfl rfl Bool.noConfusion rfl rfl fun q14 F14 => ?_
     refine st_gskip F14 rfl rfl rfl Bool.noConfusion rfl rfl fun q15 F15 => ?_
     refine st_gskip F15 rfl rfl rfl Bool.noConfusion rfl rfl fun q16 F16 => ?_
     refine st_gskip F16 rfl rfl rfl Bool.noConfusion rfl rfl fun q17 F17 => ?_
     refine st_gskip F17 rfl rfl rfl Bool.noConfusion rfl rfl fun q18 F18 => ?_
     refine st_pr F18 (PR.op (ex_pick_t rfl rfl) <| PR.nil) fun q19 F19 => ?_
     refine st_end <| then_n ?_
     refine wp_if_t F19 rfl ?_
     refine wp_exit <| then_x <| blk_hit <| then_n <| wp_reg ?_
     refine st_pr F19 (PR.op (ex_move rfl) <| PR.op (ex_add rfl rfl) <| PR.op (ex_asg rfl) <| PR.nil) fun q20 F20 => ?_
     refine st_end ?_
     obtain rfl := some_ok H
     refine then_n ?_
     exact ⟨_, rfl, v2, F20.sub ⟨rfl, rfl, rfl, rfl, trivial⟩, s5.drop⟩
    ·replace H := ite_f hb1 H
     refine st_gop F8 rfl rfl (look_b rfl hb1) (ex_fab Fx.fa121_0 rfl rfl) rfl rfl fun q21 F21 => ?_
     refine st_gop F21 rfl rfl (look_b rfl hb1) (ex_fab Fx.fa90_1 rfl rfl) rfl rfl fun q23 F22 => ?_
     refine st_gop F22 rfl rfl (look_b rfl hb1) (ex_ld Fx.nag5 rfl (s5.blk_cell (.head _) rfl)) rfl rfl fun q24 F24 => ?_
     refine st_gop F24 rfl rfl (look_b rfl hb1) (ex_ne rfl rfl) rfl rfl fun q25 F25 => ?_
     refine st_pr F25 (PR.op (ex_pick_f (ev_b rfl hb1) rfl) <| PR.op (ex_move rfl) <| PR.nil) fun q27 F26 => ?_
     refine bool_split ((x0.in_.Op.toNat : Int) != 20) (fun hb2 => ?_) (fun hb2 => ?_)
     ·replace H := ite_t hb2 H
      refine st_gskip F26 rfl rfl (look_b rfl hb2) Bool.noConfusion rfl rfl fun q28 F28 => ?_
      refine st_gskip F28 rfl rfl (look_b rfl hb2) Bool.noConfusion rfl rfl fun q29 F29 => ?_
      refine st_gskip F29 rfl rfl (look_b rfl hb2) Bool.noConfusion rfl rfl fun q30 F30 => ?_
      refine st_gskip F30 rfl rfl (look_b rfl hb2) Bool.noConfusion rfl rfl fun q31 F31 => ?_
      refine st_gskip F31 rfl rfl (look_b rfl hb2) Bool.noConfusion rfl rfl fun q32 F32 => ?_
      refine st_pr F32 (PR.op (ex_pick_t (ev_b rfl hb2) rfl) <| PR.nil) fun q34 F33 => ?_
      refine st_end <| then_n ?_
      refine wp_if_t F33 rfl ?_
      refine wp_exit <| then_x <| blk_hit <| then_n <| wp_reg ?_
      refine st_pr F33 (PR.op (ex_move rfl) <| PR.op (ex_add rfl rfl) <| PR.op (ex_asg rfl) <| PR.nil) fun q35 F35 => ?_
      refine st_end ?_
      obtain rfl := some_ok H
      refine then_n ?_
      exact ⟨_, rfl, v2, F35.sub ⟨rfl, rfl, rfl, rfl, trivial⟩, s5.drop⟩
     ·replace H := ite_f hb2 H
      refine st_gop F26 rfl rfl (look_b rfl hb2) (ex_move rfl) rfl rfl fun q36 F36 => ?_
      refine st_gop F36 rfl rfl (look_b rfl hb2) (ex_move rfl) rfl rfl fun q38 F37 => ?_
      refine st_gop F37 rfl rfl (look_b rfl hb2) (ex_add rfl rfl) rfl rfl fun q39 F39 => ?_
      obtain ⟨x2, hx2, H⟩ := bind_ok H
      obtain ⟨a3, hi2, he2⟩ := own_idx Flat.bool s5 (.tail _ <| .head _) Fx.sl93 rfl hx2
      refine st_gop F39 rfl rfl (look_b rfl hb2) (hi2 _ _ _ _ _ _ _ _ _ _ rfl rfl) rfl rfl fun q40 F40 => ?_
      refine st_gop F40 rfl rfl (look_b rfl hb2) (ex_ld Fx.nag4 rfl (Cells.at_ (SL.elcells Flat.bool s5 (.tail _ <| .head _) he2 hx2) (o := 0) rfl)) rfl rfl fun q41 F41 => ?_
      refine st_pr F41 (PR.op (ex_pick_f (ev_b rfl hb2) rfl) <| PR.nil) fun q42 F42 => ?_
      refine st_end <| then_n ?_
      refine wp_if F42 rfl (fun hb3 => ?_) (fun hb3 => ?_)
      ·replace H := ite_t hb3 H
       refine wp_exit <| then_x <| blk_hit <| then_n <| wp_reg ?_
       refine st_pr F42 (PR.op (ex_move rfl) <| PR.op (ex_add rfl rfl) <| PR.op (ex_asg rfl) <| PR.nil) fun q43 F43 => ?_
       refine st_end ?_
       obtain rfl := some_ok H
       refine then_n ?_
       exact ⟨_, rfl, v2, F43.sub ⟨rfl, rfl, rfl, rfl, trivial⟩, s5.drop⟩
      ·replace H := ite_f hb3 H
       refine wp_skip <| then_n <| wp_seq <| wp_seq <| wp_reg ?_
       obtain ⟨x3, hx3, H⟩ := bind_ok H
       obtain ⟨a4, hi3, he3⟩ := own_idx F_opt_item s5 (.tail _ <| .tail _ <| .head _) Fx.sl94 rfl hx3
       refine st_pr F42 (PR.op (ex_move rfl) <| PR.op (ex_move rfl) <| PR.op (hi3 _ _ _ _ _ _ _ _ _ _ rfl rfl) <| PR.op (ex_fa Fx.fa121_0 rfl) <| PR.op (ex_fae Fx.fa90_2 rfl rfl) <| PR.op (ex_ld Fx.nag3 rfl (Cells.at_ (SL.elcells F_opt_item s5 (.tail _ <| .tail _ <| .head _) he3 hx3) (o := 2) rfl)) <| PR.op (ex_eq rfl rfl) <| PR.nil) fun q44 F44 => ?_
       refine st_end <| then_n ?_
       refine wp_if F44 rfl (fun hb4 => ?_) (fun hb4 => ?_)
       ·replace H := ite_t hb4 H
        refine wp_reg ?_
        obtain ⟨x4, hx4, H⟩ := bind_ok H
        obtain ⟨a5, hi4, he4⟩ := own_idx F_opt_item s5 (.tail _ <| .tail _ <| .head _) Fx.sl94 rfl hx4
        refine st_pr F44 (PR.op (ex_move rfl) <| PR.op (ex_move rfl) <| PR.op (ex_build (vs := [.int .u8 19]) Fx.zero90 Fx.pl90 rfl (cs := [.int .i64 0, .int .u8 19, .int .i64 0, .int .i64 0]) (rfl)) <| PR.op (ex_fab Fx.fa121_1 rfl rfl) <| PR.op (ex_ld Fx.nag3 rfl (s5.blk_cell (.head _) rfl)) <| PR.op (ex_build (vs := [.agg ⟨[.int .i64 0, .int .u8 19, .int .i64 0, .int .i64 0]⟩, .int .i64 x0.to]) Fx.zero121 Fx.pl121 rfl (cs := [.int .i64 0, .int .u8 19, .int .i64 0, .int .i64 0, .int .i64 x0.to, .bool false]) (rfl)) <| PR.op (hi4 _ _ _ _ _ _ _ _ _ _ rfl rfl) <| PR.nil) fun q45 F45 => ?_
        refine st_setel (y' := (⟨(⟨0, 19, 0, 0⟩ : S_api_Instr), x0.to, false⟩ : S_opt_item)) F_opt_item F45 s5.f2 he4 hx4 rfl rfl (by rfl) Fx.sz121 fun w3 q46 F46 s6 => ?_
        refine st_end <| then_n <| wp_seq <| wp_reg ?_
        obtain ⟨x5, hx5, H⟩ := bind_ok H
        obtain ⟨a6, hi5, he5⟩ := own_idx F_opt_item s6 (.head _) Fx.sl94 rfl hx5
        refine st_pr F46 (PR.op (ex_move rfl) <| PR.op (ex_move rfl) <| PR.op (ex_add rfl rfl) <| PR.op (hi5 _ _ _ _ _ _ _ _ _ _ rfl rfl) <| PR.op (ex_fa Fx.fa121_2 rfl) <| PR.nil) fun q47 F47 => ?_
        refine st_setfld (y' := (⟨(⟨x5.in_.At, x5.in_.Op, x5.in_.A, x5.in_.B⟩ : S_api_Instr), x5.to, true⟩ : S_opt_item)) (o := 5) (ds := [.bool true]) F_opt_item F47 s6 he5 hx5 rfl rfl (by rfl) Fx.sz4 (by rfl) (one_cons rfl one_nil) (by rfl) fun w4 q48 F48 s7 => ?_
        refine st_pr F48 (PR.op (ex_asg rfl) <| PR.nil) fun q49 F49 => ?_
        refine st_end <| then_n <| wp_reg ?_
        refine st_pr F49 (PR.op (ex_move rfl) <| PR.op (ex_add rfl rfl) <| PR.op (ex_asg rfl) <| PR.nil) fun q50 F50 => ?_
        refine st_end ?_
        refine blk_n ?_
        refine then_n <| wp_reg ?_
        refine st_pr F50 (PR.op (ex_move rfl) <| PR.op (ex_add rfl rfl) <| PR.op (ex_asg rfl) <| PR.nil) fun q51 F51 => ?_
        refine st_end ?_
        obtain rfl := some_ok H
        refine then_n ?_
        exact ⟨_, rfl, v2, F51.sub ⟨rfl, rfl, rfl, rfl, trivial⟩, s7.f1.drop.f1⟩
       ·replace H := ite_f hb4 H
        refine wp_reg ?_
        obtain ⟨x6, hx6, H⟩ := bind_ok H
        obtain ⟨a7, hi6, he6⟩ := own_idx F_opt_item s5 (.tail _ <| .tail _ <| .head _) Fx.sl94 rfl hx6
        refine st_pr F44 (PR.op (ex_move rfl) <| PR.op (ex_move rfl) <| PR.op (hi6 _ _ _ _ _ _ _ _ _ _ rfl rfl) <| PR.op (ex_fa Fx.fa121_2 rfl) <| PR.nil) fun q52 F52 => ?_
        refine st_setfld (y' := (⟨(⟨x6.in_.At, x6.in_.Op, x6.in_.A, x6.in_.B⟩ : S_api_Instr), x6.to, true⟩ : S_opt_item)) (o := 5) (ds := [.bool true]) F_opt_item F52 s5.f2 he6 hx6 rfl rfl (by rfl) Fx.sz4 (by rfl) (one_cons rfl one_nil) (by rfl) fun w5 q53 F53 s8 => ?_
        refine st_end <| then_n <| wp_seq <| wp_reg ?_
        obtain ⟨x7, hx7, H⟩ := bind_ok H
        obtain ⟨a8, hi7, he7⟩ := own_idx F_opt_item s8 (.head _) Fx.sl94 rfl hx7
        refine st_pr F53 (PR.op (ex_move rfl) <| PR.op (ex_move rfl) <| PR.op (ex_add rfl rfl) <| PR.op (hi7 _ _ _ _ _ _ _ _ _ _ rfl rfl) <| PR.op (ex_fa Fx.fa121_2 rfl) <| PR.nil) fun q54 F54 => ?_
        refine st_setfld (y' := (⟨(⟨x7.in_.At, x7.in_.Op, x7.in_.A, x7.in_.B⟩ : S_api_Instr), x7.to, true⟩ : S_opt_item)) (o := 5) (ds := [.bool true]) F_opt_item F54 s8 he7 hx7 rfl rfl (by rfl) Fx.sz4 (by rfl) (one_cons rfl one_nil) (by rfl) fun w6 q55 F55 s9 => ?_
        refine st_pr F55 (PR.op (ex_asg rfl) <| PR.nil) fun q56 F56 => ?_
        refine st_end <| then_n <| wp_reg ?_
        refine st_pr F56 (PR.op (ex_move rfl) <| PR.op (ex_add rfl rfl) <| PR.op (ex_asg rfl) <| PR.nil) fun q57 F57 => ?_
        refine st_end ?_
        refine blk_n ?_
        refine then_n <| wp_reg ?_
        refine st_pr F57 (PR.op (ex_move rfl) <| PR.op (ex_add rfl rfl) <| PR.op (ex_asg rfl) <| PR.nil) fun q58 F58 => ?_
        refine st_end ?_
        obtain rfl := some_ok H
        refine then_n ?_
        exact ⟨_, rfl, v2, F58.sub ⟨rfl, rfl, rfl, rfl, trivial⟩, s9.f1.drop.f1⟩
   ·replace H := ite_f hb0 H
    refine wp_exit <| then_x <| then_x <| blk_hit ?_
    obtain rfl := some_ok H
    obtain rfl := hr _ rfl
    refine then_n ?_
    exact ⟨v2, F3.sub ⟨rfl, rfl, trivial⟩, s2.drop⟩
 ·intro q59 w7 hJ
  obtain ⟨v1, F59, s10⟩ := hJ
  have H := R0
  clear R0 H0
  refine then_n <| wp_seq <| wp_reg ?_
  obtain ⟨x8, hx8, H⟩ := bind_ok H
  refine st_pr F59 (PR.op (ex_move rfl) <| PR.nil) fun q60 F60 => ?_
  refine st_call (args := [.tmp 67]) F60 Fx.fn95 rfl (opt_left_c (a0 := o0.1)  (s10.rd0 (.head _)) hx8) rfl fun v3 w8 q61 hS0 F61 => ?_
  obtain ⟨_, rfl, hq0⟩ := hS0
  have s11 := s10.add hq0
  refine st_pr F61 (PR.op (ex_move rfl) <| PR.op (ex_asg rfl) <| PR.op (ex_asg rfl) <| PR.nil) fun q62 F62 => ?_
  refine st_end <| then_n ?_
  obtain rfl := some_ok H
  refine wp_ret ?_
  refine ret_gen (rs := [.tmp 2, .tmp 3]) (vs := [v3, .bool o0.2]) F62 (by rfl) ⟨_, _, rfl, RV.tmp rfl, _, _, rfl, RV.tmp rfl, rfl⟩ ⟨_, rfl, ⟨v3, rfl, s11.f1.drop⟩⟩
-- The walk of proviso/opt.Func.
theorem opt_Func_c {w : World} {v0_1 v0_4 : Value} {a0 : S_api_Func} {r : S_api_Func × Int} (hr0_1 : Rd Ty.u8 w [] v0_1 a0.Sig.Params) (hr0_4 : Rd Ty.u8 w [] v0_4 a0.Code) (H : opt_Func a0 = some r) :
  Calls Try.prog 23 #[.agg ⟨[.string ⟨⟨a0.Name⟩⟩, v0_1, .int .u8 (a0.Sig.Result.toNat : Int), .int .i64 a0.Locals, v0_4]⟩] w (Ret fun u_ w_ => ∃ u0 u1 : Value, u_ = .tuple ⟨[.agg ⟨[.string ⟨⟨r.1.Name⟩⟩, u0, .int .u8 (r.1.Sig.Result.toNat : Int), .int .i64 r.1.Locals, u1]⟩, .int .i64 r.2]⟩ ∧ SL w [] w_ [Sl Ty.u8 u0 r.1.Sig.Params, Sl Ty.u8 u1 r.1.Code]) := by
 have s0 : SL w [] w [] := SL.init0 w
 refine call_enter Try.func23 rfl Try.ntmps23 (Nat.le_of_ble_eq_true rfl) (args := [.agg ⟨[.string ⟨⟨a0.Name⟩⟩, v0_1, .int .u8 (a0.Sig.Result.toNat : Int), .int .i64 a0.Locals, v0_4]⟩]) fun q0 F0 => ?_
 unfold opt_Func at H
 refine wp_seq <| wp_reg ?_
 refine st_box F0 s0 rfl rfl rfl fun g15 w16 q17 F18 s19 => ?_
 refine st_alloc F18 s19 Fx.zero56 rfl rfl fun g21 w22 q23 F24 s25 => ?_
 refine st_pr F24 (PR.op (ex_asg rfl) <| PR.nil) fun q27 F28 => ?_
 refine st_end <| then_n ?_
 refine wp_scope_fwd 0 rfl ?_
 refine wp_seq <| wp_reg ?_
 obtain ⟨x42, hx43, H⟩ := bind_ok H
 refine st_pr F28 (PR.op (ex_fab Fx.fa56_3 rfl rfl) <| PR.op (ex_ld Fx.nag22 rfl (s25.blk_cell (.tail _ <| .head _) rfl)) <| PR.nil) fun q44 F45 => ?_
 refine st_call (args := [.tmp 16]) F45 Fx.fn28 rfl (flow_Check_c (a0 := a0.Code)  (hr0_4.pass0 s25) hx43) rfl fun v46 w47 q48 hS50 F49 => ?_
 obtain ⟨rfl, hq52⟩ := hS50
 have s51 := s25.add hq52
 refine st_pr F49 (PR.op (ex_move rfl) <| PR.op (ex_extract (v := .int .i64 x42.1) rfl rfl) <| PR.op (ex_extract (v := .int .i64 x42.2) rfl rfl) <| PR.op (ex_asg rfl) <| PR.op (ex_asg rfl) <| PR.nil) fun q53 F54 => ?_
 refine st_end <| then_n <| wp_seq <| wp_seq <| wp_reg ?_
 refine st_pr F54 (PR.op (ex_move rfl) <| PR.op (ex_ne rfl rfl) <| PR.nil) fun q80 F81 => ?_
 refine st_end <| then_n ?_
 refine wp_if F81 rfl (fun hb82 => ?_) (fun hb82 => ?_)
 ·replace H := ite_t hb82 H
  refine wp_seq <| wp_reg ?_
  refine st_pr F81 (PR.op (ex_build (vs := []) Fx.zero56 Fx.pl56 rfl (cs := [.string ⟨⟨[]⟩⟩, .slice none 0 0, .int .u8 0, .int .i64 0, .slice none 0 0]) (rfl)) <| PR.op (ex_move rfl) <| PR.nil) fun q92 F93 => ?_
  have s98 := s51
  refine st_storea F93 s98 rfl rfl Fx.sz56 (one_cons rfl (one_cons rfl (one_cons rfl (one_cons rfl (one_cons rfl one_nil))))) (Nat.le_of_ble_eq_true rfl) fun w94 q95 F96 s97 => ?_
  replace s97 : SL w [] w94 [Blk g21 56 [.string ⟨⟨[]⟩⟩, .slice none 0 0, .int .u8 0, .int .i64 0, .slice none 0 0], Blk g15 56 [.string ⟨⟨a0.Name⟩⟩, v0_1, .int .u8 (a0.Sig.Result.toNat : Int), .int .i64 a0.Locals, v0_4]] := s97
  refine st_pr F96 (PR.op (ex_asg rfl) <| PR.nil) fun q99 F1 => ?_
  refine st_end <| then_n ?_
  obtain rfl := some_ok H
  refine wp_ret ?_
  refine then_r <| jmp_r ?_
  refine ret_gen (rs := [.cell 2 56, .tmp 3]) (vs := [.agg ⟨[.string ⟨⟨[]⟩⟩, .slice none 0 0, .int .u8 0, .int .i64 0, .slice none 0 0]⟩, .int .i64 x42.2]) F1 (by rfl) ⟨_, _, rfl, RV.blk s97 (.head _) rfl Fx.agg56 rfl, _, _, rfl, RV.tmp rfl, rfl⟩ ⟨_, rfl, ⟨(.slice none 0 0), (.slice none 0 0), rfl, (SL.nilSl (T := Ty.u8) (SL.nilSl (T := Ty.u8) s97)).f2.drop.f2.drop.f1⟩⟩
 ·replace H := ite_f hb82 H
  refine wp_skip <| then_n <| wp_seq <| wp_reg ?_
  obtain ⟨x0, hx0, H⟩ := bind_ok H
  refine st_pr F81 (PR.op (ex_fab Fx.fa56_3 rfl rfl) <| PR.op (ex_ld Fx.nag22 rfl (s51.blk_cell (.tail _ <| .head _) rfl)) <| PR.nil) fun q1 F2 => ?_
  refine st_call (args := [.tmp 25]) F2 Fx.fn43 rfl (opt_items_c (a0 := a0.Code)  (hr0_4.pass0 s51) hx0) rfl fun v0 w0 q2 hS0 F3 => ?_
  obtain ⟨_, rfl, hq0⟩ := hS0
  have s1 := s51.add hq0
  refine st_pr F3 (PR.op (ex_asg rfl) <| PR.nil) fun q3 F4 => ?_
  refine st_end <| then_n <| wp_seq ?_
  refine wp_label ?_
  refine then_n <| wp_seq ?_
  obtain ⟨o0, H0, R0⟩ := bind_ok H
  clear H
  refine wp_cutn (fun a w_ => ∃ v1 : Value, Fr a 67 [(1, .pointer (some ⟨g15, 0, none⟩)), (2, .pointer (some ⟨g21, 0, none⟩)), (6, v1)] ∧ SL w [] w_ [Blk g21 56 [.string ⟨⟨[]⟩⟩, .slice none 0 0, .int .u8 0, .int .i64 0, .slice none 0 0], Blk g15 56 [.string ⟨⟨a0.Name⟩⟩, v0_1, .int .u8 (a0.Sig.Result.toNat : Int), .int .i64 a0.Locals, v0_4], Sl T_opt_item v1 o0]) ?_ ?_
  ·have H := H0
   refine wp_block ?_
   refine wp_lp (opt_Func_b0) (fun s2 a w_ => ∃ v2 : Value, Fr a 67 [(1, .pointer (some ⟨g15, 0, none⟩)), (2, .pointer (some ⟨g21, 0, none⟩)), (6, v2)] ∧ SL w [] w_ [Blk g21 56 [.string ⟨⟨[]⟩⟩, .slice none 0 0, .int .u8 0, .int .i64 0, .slice none 0 0], Blk g15 56 [.string ⟨⟨a0.Name⟩⟩, v0_1, .int .u8 (a0.Sig.Result.toNat : Int), .int .i64 a0.Locals, v0_4], Sl T_opt_item v2 s2]) H ?_ ?_
   ·exact ⟨v0, F4.sub ⟨rfl, rfl, rfl, trivial⟩, s1.f2.f2⟩
   ·intro s2 q4 w1 hI0 o1 H hr
    obtain ⟨v2, F5, s3⟩ := hI0
    replace H : opt_Func_b0 s2 = some o1 := H
    unfold opt_Func_b0 at H
    refine wp_block <| wp_seq <| wp_reg ?_
    refine st_pr F5 (PR.op (ex_asg rfl) <| PR.nil) fun q5 F6 => ?_
    refine st_end <| then_n <| wp_seq <| wp_seq <| wp_reg ?_
    obtain ⟨x1, hx1, H⟩ := bind_ok H
    refine st_call (args := []) F6 Fx.fn44 rfl (opt_rules_c    hx1) rfl fun v3 w2 q6 hS1 F7 => ?_
    obtain ⟨g0, rfl, hq1⟩ := hS1
    have s4 := s3.add hq1
    refine st_pr F7 (PR.op (ex_len rfl Try.underlying96 ⟨_, _, rfl⟩) <| PR.op (ex_move rfl) <| PR.nil) fun q7 F8 => ?_
    refine st_end <| then_n <| wp_block ?_
    refine wp_loop_rounds 6 ?_
    refine rounds_step ?_
    refine wp_seq <| wp_reg ?_
    refine st_pr F8 (PR.op (ex_lt rfl rfl) <| PR.nil) fun q8 F9 => ?_
    refine st_end <| then_n <| wp_seq ?_
    refine wp_if_t F9 rfl ?_
    refine wp_skip <| then_n <| wp_seq <| wp_block <| wp_seq <| wp_reg ?_
    refine st_pr F9 (PR.op (ex_ixlit Fx.sl96 rfl rfl (by decide)) <| PR.op (ex_ld Fx.nag99 rfl (s4.blk_cell (.head _) rfl)) <| PR.op (ex_asg rfl) <| PR.nil) fun q9 F10 => ?_
    refine st_end <| then_n <| wp_seq <| wp_reg ?_
    obtain ⟨x2, hx2, H⟩ := bind_ok H
    refine st_pr F10 (PR.op (ex_move rfl) <| PR.op (ex_move rfl) <| PR.nil) fun q10 F11 => ?_
    refine st_callf (args := [.tmp 35]) F11 Fx.fn63 rfl rfl (opt_threads_c (a0 := s2)  (s4.rd0 (.tail _ <| .tail _ <| .tail _ <| .head _)) hx2) rfl fun v4 w3 q11 hS2 F12 => ?_
    obtain ⟨v5, rfl, hq2⟩ := hS2
    have s5 := s4.add hq2
    refine st_pr F12 (PR.op (ex_move rfl) <| PR.op (ex_extract (v := v5) rfl rfl) <| PR.op (ex_extract (v := .bool x2.2) rfl rfl) <| PR.op (ex_asg rfl) <| PR.op (ex_asg rfl) <| PR.nil) fun q12 F13 => ?_
    refine st_end <| then_n <| wp_reg ?_
    refine st_pr F13 (PR.op (ex_move rfl) <| PR.op (ex_move rfl) <| PR.op (ex_move rfl) <| PR.nil) fun q13 F14 => ?_
    refine st_gop F14 rfl rfl rfl (ex_move rfl) rfl rfl fun q14 F15 => ?_
    refine st_pr F15 (PR.op (ex_pick_f rfl rfl) <| PR.op (ex_asg rfl) <| PR.op (ex_asg rfl) <| PR.nil) fun q15 F16 => ?_
    refine st_end ?_
    refine blk_n ?_
    refine then_n <| wp_reg ?_
    refine st_pr F16 (PR.op (ex_add rfl rfl) <| PR.op (ex_move rfl) <| PR.nil) fun q16 F17 => ?_
    refine st_end <| then_n ?_
    refine rounds_step ?_
    refine wp_seq <| wp_reg ?_
    refine st_pr F17 (PR.op (ex_lt rfl rfl) <| PR.nil) fun q18 F19 => ?_
    refine st_end <| then_n <| wp_seq ?_
    refine wp_if_t F19 rfl ?_
    refine wp_skip <| then_n <| wp_seq ?_
    obtain ⟨o2, H1, R1⟩ := bind_ok H
    clear H
    refine wp_cutn (fun a w_ => ∃ v6 : Value, Fr a 67 [(1, .pointer (some ⟨g15, 0, none⟩)), (2, .pointer (some ⟨g21, 0, none⟩)), (6, v6), (7, .bool o2.2), (27, .slice (some ⟨g0, 0, none⟩) 5 5), (28, .int .i64 ((5 : Nat) : Int)), (29, .int .i64 1)] ∧ SL w [] w_ [Blk g0 99 [clo 63 [], clo 64 [], clo 65 [], clo 66 [], clo 67 []], Blk g21 56 [.string ⟨⟨[]⟩⟩, .slice none 0 0, .int .u8 0, .int .i64 0, .slice none 0 0], Blk g15 56 [.string ⟨⟨a0.Name⟩⟩, v0_1, .int .u8 (a0.Sig.Result.toNat : Int), .int .i64 a0.Locals, v0_4], Sl T_opt_item v6 o2.1]) ?_ ?_
    ·have H := H1
     refine wp_block <| wp_seq <| wp_reg ?_
     refine st_pr F19 (PR.op (ex_ixlit Fx.sl96 rfl rfl (by decide)) <| PR.op (ex_ld Fx.nag99 rfl (s5.blk_cell (.tail _ <| .head _) rfl)) <| PR.op (ex_asg rfl) <| PR.nil) fun q19 F20 => ?_
     refine st_end <| then_n <| wp_seq <| wp_reg ?_
     obtain ⟨x3, hx3, H⟩ := bind_ok H
     refine st_pr F20 (PR.op (ex_move rfl) <| PR.op (ex_move rfl) <| PR.nil) fun q20 F21 => ?_
     have s6 := s5
     obtain ⟨G0, hs0, hF0, hG0, hc0⟩ := SL.open_ (ps := [Sl T_opt_item v5 x2.1]) (rest := [Blk g0 99 [clo 63 [], clo 64 [], clo 65 [], clo 66 [], clo 67 []], Blk g21 56 [.string ⟨⟨[]⟩⟩, .slice none 0 0, .int .u8 0, .int .i64 0, .slice none 0 0], Blk g15 56 [.string ⟨⟨a0.Name⟩⟩, v0_1, .int .u8 (a0.Sig.Result.toNat : Int), .int .i64 a0.Locals, v0_4], Sl T_opt_item v2 s2]) s6
     refine st_callf (args := [.tmp 35]) F21 Fx.fn64 rfl rfl (opt_dead_c (a0 := x2.1) hs0  hx3) rfl fun v7 w4 q21 hS3 F22 => ?_
     obtain ⟨v8, rfl, hq3⟩ := hS3
     have s7 := hc0 _ _ hq3
     refine st_pr F22 (PR.op (ex_move rfl) <| PR.op (ex_extract (v := v8) rfl rfl) <| PR.op (ex_extract (v := .bool x3.2) rfl rfl) <| PR.op (ex_asg rfl) <| PR.op (ex_asg rfl) <| PR.nil) fun q22 F23 => ?_
     refine st_end <| then_n <| wp_reg ?_
     refine st_pr F23 (PR.op (ex_move rfl) <| PR.op (ex_move rfl) <| PR.op (ex_move rfl) <| PR.nil) fun q24 F25 => ?_
     refine bool_split x2.2 (fun hb0 => ?_) (fun hb0 => ?_)
     ·replace H := ite_t hb0 H
      refine st_gskip F25 rfl rfl (look_b rfl hb0) Bool.noConfusion rfl rfl fun q25 F26 => ?_
      refine st_pr F26 (PR.op (ex_pick_t (ev_b rfl hb0) rfl) <| PR.op (ex_asg rfl) <| PR.op (ex_asg rfl) <| PR.nil) fun q26 F27 => ?_
      refine st_end ?_
      refine blk_n ?_
      obtain rfl := some_ok H
      refine then_n ?_
      exact ⟨v8, F27.sub ⟨rfl, rfl, rfl, rfl, rfl, rfl, rfl, trivial⟩, s7.f4.drop.f3.f3.f3⟩
     ·replace H := ite_f hb0 H
      refine st_gop F25 rfl rfl (look_b rfl hb0) (ex_move rfl) rfl rfl fun q28 F29 => ?_
      refine st_pr F29 (PR.op (ex_pick_f (ev_b rfl hb0) rfl) <| PR.op (ex_asg rfl) <| PR.op (ex_asg rfl) <| PR.nil) fun q29 F30 => ?_
      refine st_end ?_
      refine blk_n ?_
      obtain rfl := some_ok H
      refine then_n ?_
      exact ⟨v8, F30.sub ⟨rfl, rfl, rfl, rfl, rfl, rfl, rfl, trivial⟩, s7.f4.drop.f3.f3.f3⟩
    ·intro q30 w5 hJ
     obtain ⟨v6, F31, s8⟩ := hJ
     have H := R1
     clear R1 H1
     refine then_n <| wp_reg ?_
     refine st_pr F31 (PR.op (ex_add rfl rfl) <| PR.op (ex_move rfl) <| PR.nil) fun q31 F32 => ?_
     refine st_end <| then_n ?_
     refine rounds_step ?_
     refine wp_seq <| wp_reg ?_
     refine st_pr F32 (PR.op (ex_lt rfl rfl) <| PR.nil) fun q32 F33 => ?_
     refine st_end <| then_n <| wp_seq ?_
     refine wp_if_t F33 rfl ?_
     refine wp_skip <| then_n <| wp_seq ?_
     obtain ⟨o3, H2, R2⟩ := bind_ok H
     clear H
     refine wp_cutn (fun a w_ => ∃ v9 : Value, Fr a 67 [(1, .pointer (some ⟨g15, 0, none⟩)), (2, .pointer (some ⟨g21, 0, none⟩)), (6, v9), (7, .bool o3.2), (27, .slice (some ⟨g0, 0, none⟩) 5 5), (28, .int .i64 ((5 : Nat) : Int)), (29, .int .i64 2)] ∧ SL w [] w_ [Blk g0 99 [clo 63 [], clo 64 [], clo 65 [], clo 66 [], clo 67 []], Blk g21 56 [.string ⟨⟨[]⟩⟩, .slice none 0 0, .int .u8 0, .int .i64 0, .slice none 0 0], Blk g15 56 [.string ⟨⟨a0.Name⟩⟩, v0_1, .int .u8 (a0.Sig.Result.toNat : Int), .int .i64 a0.Locals, v0_4], Sl T_opt_item v9 o3.1]) ?_ ?_
     ·have H := H2
      refine wp_block <| wp_seq <| wp_reg ?_
      refine st_pr F33 (PR.op (ex_ixlit Fx.sl96 rfl rfl (by decide)) <| PR.op (ex_ld Fx.nag99 rfl (s8.blk_cell (.head _) rfl)) <| PR.op (ex_asg rfl) <| PR.nil) fun q33 F34 => ?_
      refine st_end <| then_n <| wp_seq <| wp_reg ?_
      obtain ⟨x4, hx4, H⟩ := bind_ok H
      refine st_pr F34 (PR.op (ex_move rfl) <| PR.op (ex_move rfl) <| PR.nil) fun q34 F35 => ?_
      have s9 := s8.f3
      obtain ⟨G1, hs1, hF1, hG1, hc1⟩ := SL.open_ (ps := [Sl T_opt_item v6 o2.1]) (rest := [Blk g0 99 [clo 63 [], clo 64 [], clo 65 [], clo 66 [], clo 67 []], Blk g21 56 [.string ⟨⟨[]⟩⟩, .slice none 0 0, .int .u8 0, .int .i64 0, .slice none 0 0], Blk g15 56 [.string ⟨⟨a0.Name⟩⟩, v0_1, .int .u8 (a0.Sig.Result.toNat : Int), .int .i64 a0.Locals, v0_4]]) s9
      refine st_callf (args := [.tmp 35]) F35 Fx.fn65 rfl rfl (opt_empty_c (a0 := o2.1) hs1  hx4) rfl fun v10 w6 q35 hS4 F36 => ?_
      obtain ⟨v11, rfl, hq4⟩ := hS4
      have s10 := hc1 _ _ hq4
      refine st_pr F36 (PR.op (ex_move rfl) <| PR.op (ex_extract (v := v11) rfl rfl) <| PR.op (ex_extract (v := .bool x4.2) rfl rfl) <| PR.op (ex_asg rfl) <| PR.op (ex_asg rfl) <| PR.nil) fun q36 F37 => ?_
      refine st_end <| then_n <| wp_reg ?_
      refine st_pr F37 (PR.op (ex_move rfl) <| PR.op (ex_move rfl) <| PR.op (ex_move rfl) <| PR.nil) fun q37 F38 => ?_
      refine bool_split o2.2 (fun hb1 => ?_) (fun hb1 => ?_)
      ·replace H := ite_t hb1 H
       refine st_gskip F38 rfl rfl (look_b rfl hb1) Bool.noConfusion rfl rfl fun q38 F39 => ?_
       refine st_pr F39 (PR.op (ex_pick_t (ev_b rfl hb1) rfl) <| PR.op (ex_asg rfl) <| PR.op (ex_asg rfl) <| PR.nil) fun q39 F40 => ?_
       refine st_end ?_
       refine blk_n ?_
       obtain rfl := some_ok H
       refine then_n ?_
       exact ⟨v11, F40.sub ⟨rfl, rfl, rfl, rfl, rfl, rfl, rfl, trivial⟩, s10.f3.f3.f3⟩
      ·replace H := ite_f hb1 H
       refine st_gop F38 rfl rfl (look_b rfl hb1) (ex_move rfl) rfl rfl fun q40 F41 => ?_
       refine st_pr F41 (PR.op (ex_pick_f (ev_b rfl hb1) rfl) <| PR.op (ex_asg rfl) <| PR.op (ex_asg rfl) <| PR.nil) fun q41 F42 => ?_
       refine st_end ?_
       refine blk_n ?_
       obtain rfl := some_ok H
       refine then_n ?_
       exact ⟨v11, F42.sub ⟨rfl, rfl, rfl, rfl, rfl, rfl, rfl, trivial⟩, s10.f3.f3.f3⟩
     ·intro q42 w7 hJ
      obtain ⟨v9, F43, s11⟩ := hJ
      have H := R2
      clear R2 H2
      refine then_n <| wp_reg ?_
      refine st_pr F43 (PR.op (ex_add rfl rfl) <| PR.op (ex_move rfl) <| PR.nil) fun q43 F44 => ?_
      refine st_end <| then_n ?_
      refine rounds_step ?_
      refine wp_seq <| wp_reg ?_
      refine st_pr F44 (PR.op (ex_lt rfl rfl) <| PR.nil) fun q45 F46 => ?_
      refine st_end <| then_n <| wp_seq ?_
      refine wp_if_t F46 rfl ?_
      refine wp_skip <| then_n <| wp_seq ?_
      obtain ⟨o4, H3, R3⟩ := bind_ok H
      clear H
      refine wp_cutn (fun a w_ => ∃ v12 : Value, Fr a 67 [(1, .pointer (some ⟨g15, 0, none⟩)), (2, .pointer (some ⟨g21, 0, none⟩)), (6, v12), (7, .bool o4.2), (27, .slice (some ⟨g0, 0, none⟩) 5 5), (28, .int .i64 ((5 : Nat) : Int)), (29, .int .i64 3)] ∧ SL w [] w_ [Blk g0 99 [clo 63 [], clo 64 [], clo 65 [], clo 66 [], clo 67 []], Blk g21 56 [.string ⟨⟨[]⟩⟩, .slice none 0 0, .int .u8 0, .int .i64 0, .slice none 0 0], Blk g15 56 [.string ⟨⟨a0.Name⟩⟩, v0_1, .int .u8 (a0.Sig.Result.toNat : Int), .int .i64 a0.Locals, v0_4], Sl T_opt_item v12 o4.1]) ?_ ?_
      ·have H := H3
       refine wp_block <| wp_seq <| wp_reg ?_
       refine st_pr F46 (PR.op (ex_ixlit Fx.sl96 rfl rfl (by decide)) <| PR.op (ex_ld Fx.nag99 rfl (s11.blk_cell (.head _) rfl)) <| PR.op (ex_asg rfl) <| PR.nil) fun q46 F47 => ?_
       refine st_end <| then_n <| wp_seq <| wp_reg ?_
       obtain ⟨x5, hx5, H⟩ := bind_ok H
       refine st_pr F47 (PR.op (ex_move rfl) <| PR.op (ex_move rfl) <| PR.nil) fun q47 F48 => ?_
       have s12 := s11.f3
       obtain ⟨G2, hs2, hF2, hG2, hc2⟩ := SL.open_ (ps := [Sl T_opt_item v9 o3.1]) (rest := [Blk g0 99 [clo 63 [], clo 64 [], clo 65 [], clo 66 [], clo 67 []], Blk g21 56 [.string ⟨⟨[]⟩⟩, .slice none 0 0, .int .u8 0, .int .i64 0, .slice none 0 0], Blk g15 56 [.string ⟨⟨a0.Name⟩⟩, v0_1, .int .u8 (a0.Sig.Result.toNat : Int), .int .i64 a0.Locals, v0_4]]) s12
       refine st_callf (args := [.tmp 35]) F48 Fx.fn66 rfl rfl (opt_constants_c (a0 := o3.1) hs2  hx5) rfl fun v13 w8 q49 hS5 F50 => ?_
       obtain ⟨v14, rfl, hq5⟩ := hS5
       have s13 := hc2 _ _ hq5
       refine st_pr F50 (PR.op (ex_move rfl) <| PR.op (ex_extract (v := v14) rfl rfl) <| PR.op (ex_extract (v := .bool x5.2) rfl rfl) <| PR.op (ex_asg rfl) <| PR.op (ex_asg rfl) <| PR.nil) fun q50 F51 => ?_
       refine st_end <| then_n <| wp_reg ?_
       refine st_pr F51 (PR.op (ex_move rfl) <| PR.op (ex_move rfl) <| PR.op (ex_move rfl) <| PR.nil) fun q51 F52 => ?_
       refine bool_split o3.2 (fun hb2 => ?_) (fun hb2 => ?_)
       ·replace H := ite_t hb2 H
        refine st_gskip F52 rfl rfl (look_b rfl hb2) Bool.noConfusion rfl rfl fun q52 F53 => ?_
        refine st_pr F53 (PR.op (ex_pick_t (ev_b rfl hb2) rfl) <| PR.op (ex_asg rfl) <| PR.op (ex_asg rfl) <| PR.nil) fun q54 F55 => ?_
        refine st_end ?_
        refine blk_n ?_
        obtain rfl := some_ok H
        refine then_n ?_
        exact ⟨v14, F55.sub ⟨rfl, rfl, rfl, rfl, rfl, rfl, rfl, trivial⟩, s13.f3.f3.f3⟩
       ·replace H := ite_f hb2 H
        refine st_gop F52 rfl rfl (look_b rfl hb2) (ex_move rfl) rfl rfl fun q55 F56 => ?_
        refine st_pr F56 (PR.op (ex_pick_f (ev_b rfl hb2) rfl) <| PR.op (ex_asg rfl) <| PR.op (ex_asg rfl) <| PR.nil) fun q56 F57 => ?_
        refine st_end ?_
        refine blk_n ?_
        obtain rfl := some_ok H
        refine then_n ?_
        exact ⟨v14, F57.sub ⟨rfl, rfl, rfl, rfl, rfl, rfl, rfl, trivial⟩, s13.f3.f3.f3⟩
      ·intro q57 w9 hJ
       obtain ⟨v12, F58, s14⟩ := hJ
       have H := R3
       clear R3 H3
       refine then_n <| wp_reg ?_
       refine st_pr F58 (PR.op (ex_add rfl rfl) <| PR.op (ex_move rfl) <| PR.nil) fun q58 F59 => ?_
       refine st_end <| then_n ?_
       refine rounds_step ?_
       refine wp_seq <| wp_reg ?_
       refine st_pr F59 (PR.op (ex_lt rfl rfl) <| PR.nil) fun q59 F60 => ?_
       refine st_end <| then_n <| wp_seq ?_
       refine wp_if_t F60 rfl ?_
       refine wp_skip <| then_n <| wp_seq ?_
       obtain ⟨o5, H4, R4⟩ := bind_ok H
       clear H
       refine wp_cutn (fun a w_ => ∃ v15 : Value, Fr a 67 [(1, .pointer (some ⟨g15, 0, none⟩)), (2, .pointer (some ⟨g21, 0, none⟩)), (6, v15), (7, .bool o5.2), (27, .slice (some ⟨g0, 0, none⟩) 5 5), (28, .int .i64 ((5 : Nat) : Int)), (29, .int .i64 4)] ∧ SL w [] w_ [Blk g0 99 [clo 63 [], clo 64 [], clo 65 [], clo 66 [], clo 67 []], Blk g21 56 [.string ⟨⟨[]⟩⟩, .slice none 0 0, .int .u8 0, .int .i64 0, .slice none 0 0], Blk g15 56 [.string ⟨⟨a0.Name⟩⟩, v0_1, .int .u8 (a0.Sig.Result.toNat : Int), .int .i64 a0.Locals, v0_4], Sl T_opt_item v15 o5.1]) ?_ ?_
       ·have H := H4
        refine wp_block <| wp_seq <| wp_reg ?_
        refine st_pr F60 (PR.op (ex_ixlit Fx.sl96 rfl rfl (by decide)) <| PR.op (ex_ld Fx.nag99 rfl (s14.blk_cell (.head _) rfl)) <| PR.op (ex_asg rfl) <| PR.nil) fun q60 F61 => ?_
        refine st_end <| then_n <| wp_seq <| wp_reg ?_
        obtain ⟨x6, hx6, H⟩ := bind_ok H
        refine st_pr F61 (PR.op (ex_move rfl) <| PR.op (ex_move rfl) <| PR.nil) fun q61 F62 => ?_
        have s15 := s14.f3
        obtain ⟨G3, hs3, hF3, hG3, hc3⟩ := SL.open_ (ps := [Sl T_opt_item v12 o4.1]) (rest := [Blk g0 99 [clo 63 [], clo 64 [], clo 65 [], clo 66 [], clo 67 []], Blk g21 56 [.string ⟨⟨[]⟩⟩, .slice none 0 0, .int .u8 0, .int .i64 0, .slice none 0 0], Blk g15 56 [.string ⟨⟨a0.Name⟩⟩, v0_1, .int .u8 (a0.Sig.Result.toNat : Int), .int .i64 a0.Locals, v0_4]]) s15
        refine st_callf (args := [.tmp 35]) F62 Fx.fn67 rfl rfl (opt_sure_c (a0 := o4.1) hs3  hx6) rfl fun v16 w10 q62 hS6 F63 => ?_
        obtain ⟨v17, rfl, hq6⟩ := hS6
        have s16 := hc3 _ _ hq6
        refine st_pr F63 (PR.op (ex_move rfl) <| PR.op (ex_extract (v := v17) rfl rfl) <| PR.op (ex_extract (v := .bool x6.2) rfl rfl) <| PR.op (ex_asg rfl) <| PR.op (ex_asg rfl) <| PR.nil) fun q63 F64 => ?_
        refine st_end <| then_n <| wp_reg ?_
        refine st_pr F64 (PR.op (ex_move rfl) <| PR.op (ex_move rfl) <| PR.op (ex_move rfl) <| PR.nil) fun q64 F65 => ?_
        refine bool_split o4.2 (fun hb3 => ?_) (fun hb3 => ?_)
        ·replace H := ite_t hb3 H
         refine st_gskip F65 rfl rfl (look_b rfl hb3) Bool.noConfusion rfl rfl fun q65 F66 => ?_
         refine st_pr F66 (PR.op (ex_pick_t (ev_b rfl hb3) rfl) <| PR.op (ex_asg rfl) <| PR.op (ex_asg rfl) <| PR.nil) fun q66 F67 => ?_
         refine st_end ?_
         refine blk_n ?_
         obtain rfl := some_ok H
         refine then_n ?_
         exact ⟨v17, F67.sub ⟨rfl, rfl, rfl, rfl, rfl, rfl, rfl, trivial⟩, s16.f3.f3.f3⟩
        ·replace H := ite_f hb3 H
         refine st_gop F65 rfl rfl (look_b rfl hb3) (ex_move rfl) rfl rfl fun q67 F68 => ?_
         refine st_pr F68 (PR.op (ex_pick_f (ev_b rfl hb3) rfl) <| PR.op (ex_asg rfl) <| PR.op (ex_asg rfl) <| PR.nil) fun q68 F69 => ?_
         refine st_end ?_
         refine blk_n ?_
         obtain rfl := some_ok H
         refine then_n ?_
         exact ⟨v17, F69.sub ⟨rfl, rfl, rfl, rfl, rfl, rfl, rfl, trivial⟩, s16.f3.f3.f3⟩
       ·intro q69 w11 hJ
        obtain ⟨v15, F70, s17⟩ := hJ
        have H := R4
        clear R4 H4
        refine then_n <| wp_reg ?_
        refine st_pr F70 (PR.op (ex_add rfl rfl) <| PR.op (ex_move rfl) <| PR.nil) fun q70 F71 => ?_
        refine st_end <| then_n ?_
        refine rounds_step ?_
        refine wp_seq <| wp_reg ?_
        refine st_pr F71 (PR.op (ex_lt rfl rfl) <| PR.nil) fun q71 F72 => ?_
        refine st_end <| then_n <| wp_seq ?_
        refine wp_if_f F72 rfl ?_
        refine wp_exit <| then_x <| then_x <| blk_hit <| then_n <| wp_seq <| wp_reg ?_
        refine st_pr F72 (PR.op (ex_move rfl) <| PR.op (ex_not rfl) <| PR.nil) fun q72 F73 => ?_
        refine st_end <| then_n ?_
        refine wp_if F73 rfl (fun hb4 => ?_) (fun hb4 => ?_)
        ·replace H := ite_t hb4 H
         refine wp_exit ?_
         refine blk_miss rfl <| then_x <| blk_hit ?_
         obtain rfl := some_ok H
         obtain rfl := hr _ rfl
         refine then_n ?_
         exact ⟨v15, F73.sub ⟨rfl, rfl, rfl, trivial⟩, s17.drop⟩
        ·replace H := ite_f hb4 H
         refine wp_skip ?_
         refine blk_n ?_
         obtain rfl := some_ok H
         refine then_n ?_
         exact ⟨_, rfl, v15, F73.sub ⟨rfl, rfl, rfl, trivial⟩, s17.drop⟩
  ·intro q73 w12 hJ
   obtain ⟨v1, F74, s18⟩ := hJ
   have H := R0
   clear R0 H0
   refine then_n <| wp_seq <| wp_reg ?_
   obtain ⟨x7, hx7, H⟩ := bind_ok H
   refine st_pr F74 (PR.op (ex_move rfl) <| PR.nil) fun q74 F75 => ?_
   refine st_call (args := [.tmp 48]) F75 Fx.fn46 rfl (opt_laid_c (a0 := o0)  (s18.rd0 (.tail _ <| .tail _ <| .head _)) hx7) rfl fun v18 w13 q75 hS7 F76 => ?_
   obtain ⟨_, rfl, hq7⟩ := hS7
   have s20 := s18.add hq7
   obtain ⟨x8, hx8, H⟩ := bind_ok H
   refine st_call (args := [.tmp 49]) F76 Fx.fn45 rfl (code_All_c (a0 := x7)  (s20.rd0 (.head _)) hx8) rfl fun v19 w14 q76 hS8 F77 => ?_
   obtain ⟨v20, rfl, hq8⟩ := hS8
   have s21 := s20.add hq8
   refine st_pr F77 (PR.op (ex_move rfl) <| PR.op (ex_extract (v := v20) rfl rfl) <| PR.op (ex_extract (v := .int .i64 x8.2.1) rfl rfl) <| PR.op (ex_extract (v := .int .i64 x8.2.2) rfl rfl) <| PR.op (ex_asg rfl) <| PR.op (ex_asg rfl) <| PR.op (ex_asg rfl) <| PR.nil) fun q77 F78 => ?_
   refine st_end <| then_n <| wp_seq <| wp_seq <| wp_reg ?_
   refine st_pr F78 (PR.op (ex_move rfl) <| PR.op (ex_ne rfl rfl) <| PR.nil) fun q78 F79 => ?_
   refine st_end <| then_n ?_
   refine wp_if F79 rfl (fun hb5 => ?_) (fun hb5 => ?_)
   ·replace H := ite_t hb5 H
    refine wp_seq <| wp_reg ?_
    refine st_pr F79 (PR.op (ex_build (vs := []) Fx.zero56 Fx.pl56 rfl (cs := [.string ⟨⟨[]⟩⟩, .slice none 0 0, .int .u8 0, .int .i64 0, .slice none 0 0]) (rfl)) <| PR.op (ex_move rfl) <| PR.nil) fun q79 F80 => ?_
    have s22 := s21.f2
    refine st_storea F80 s22 rfl rfl Fx.sz56 (one_cons rfl (one_cons rfl (one_cons rfl (one_cons rfl (one_cons rfl one_nil))))) (Nat.le_of_ble_eq_true rfl) fun w15 q81 F82 s23 => ?_
    replace s23 : SL w [] w15 [Blk g21 56 [.string ⟨⟨[]⟩⟩, .slice none 0 0, .int .u8 0, .int .i64 0, .slice none 0 0], Sl Ty.u8 v20 x8.1, Sl T_api_Instr v18 x7, Blk g15 56 [.string ⟨⟨a0.Name⟩⟩, v0_1, .int .u8 (a0.Sig.Result.toNat : Int), .int .i64 a0.Locals, v0_4], Sl T_opt_item v1 o0] := s23
    refine st_pr F82 (PR.op (ex_asg rfl) <| PR.nil) fun q82 F83 => ?_
    refine st_end <| then_n ?_
    obtain rfl := some_ok H
    refine wp_ret ?_
    refine then_r <| jmp_r ?_
    refine ret_gen (rs := [.cell 2 56, .tmp 3]) (vs := [.agg ⟨[.string ⟨⟨[]⟩⟩, .slice none 0 0, .int .u8 0, .int .i64 0, .slice none 0 0]⟩, .int .i64 x8.2.2]) F83 (by rfl) ⟨_, _, rfl, RV.blk s23 (.head _) rfl Fx.agg56 rfl, _, _, rfl, RV.tmp rfl, rfl⟩ ⟨_, rfl, ⟨(.slice none 0 0), (.slice none 0 0), rfl, (SL.nilSl (T := Ty.u8) (SL.nilSl (T := Ty.u8) s23)).f2.drop.f2.drop.f2.drop.f2.drop.f2.drop.f1⟩⟩
   ·replace H := ite_f hb5 H
    refine wp_skip <| then_n <| wp_seq <| wp_reg ?_
    obtain ⟨x9, hx9, H⟩ := bind_ok H
    refine st_pr F79 (PR.op (ex_fab Fx.fa56_1 rfl rfl) <| PR.op (ex_fab Fx.fa54_0 rfl rfl) <| PR.op (ex_ld Fx.nag51 rfl (s21.blk_cell (.tail _ <| .tail _ <| .tail _ <| .head _) rfl)) <| PR.nil) fun q83 F84 => ?_
    have s24 := (SL.nilSl (T := Ty.u8) s21)
    obtain ⟨_, hr_⟩ := (rdL hr0_1 s24)
    refine st_append_rd Flat.u8 F84 s24 Fx.sl51 rfl rfl rfl rfl hr_ rfl rfl hx9 rfl fun v21 w17 q84 F85 s26 => ?_
    refine st_pr F85 (PR.op (ex_fab Fx.fa56_1 rfl rfl) <| PR.op (ex_fab Fx.fa54_0 rfl rfl) <| PR.nil) fun q85 F86 => ?_
    have s27 := s26.f4
    refine st_store F86 s27 rfl rfl Fx.sz51 (form_cells (formL (s27.own_rd (.tail _ <| .head _)))) (form_one (formL (s27.own_rd (.tail _ <| .head _)))) rfl fun w18 q86 F87 s28 => ?_
    replace s28 : SL w [] w18 [Blk g15 56 [.string ⟨⟨a0.Name⟩⟩, v21, .int .u8 (a0.Sig.Result.toNat : Int), .int .i64 a0.Locals, v0_4], Sl Ty.u8 v21 x9, Sl Ty.u8 v20 x8.1, Sl T_api_Instr v18 x7, Blk g21 56 [.string ⟨⟨[]⟩⟩, .slice none 0 0, .int .u8 0, .int .i64 0, .slice none 0 0], Sl T_opt_item v1 o0] := s28
    refine st_end <| then_n <| wp_seq <| wp_reg ?_
    refine st_pr F87 (PR.op (ex_move rfl) <| PR.op (ex_fab Fx.fa56_3 rfl rfl) <| PR.nil) fun q87 F88 => ?_
    have s29 := s28
    refine st_store F88 s29 rfl rfl Fx.sz22 (form_cells (formL (s29.own_rd (.tail _ <| .tail _ <| .head _)))) (form_one (formL (s29.own_rd (.tail _ <| .tail _ <| .head _)))) rfl fun w19 q88 F89 s30 => ?_
    replace s30 : SL w [] w19 [Blk g15 56 [.string ⟨⟨a0.Name⟩⟩, v21, .int .u8 (a0.Sig.Result.toNat : Int), .int .i64 a0.Locals, v20], Sl Ty.u8 v21 x9, Sl Ty.u8 v20 x8.1, Sl T_api_Instr v18 x7, Blk g21 56 [.string ⟨⟨[]⟩⟩, .slice none 0 0, .int .u8 0, .int .i64 0, .slice none 0 0], Sl T_opt_item v1 o0] := s30
    refine st_end <| then_n <| wp_seq <| wp_reg ?_
    refine st_pr F89 (PR.op (ex_ldagg Fx.agg56 rfl (s30.blk_cells (.head _) (o := 0) (ds := [.string ⟨⟨a0.Name⟩⟩, v21, .int .u8 (a0.Sig.Result.toNat : Int), .int .i64 a0.Locals, v20]) (fun j u hu => by rw [Nat.zero_add]; exact hu)) rfl) <| PR.nil) fun q89 F90 => ?_
    have s31 := s30.f4
    refine st_storea F90 s31 rfl rfl Fx.sz56 (one_cons rfl (one_cons (form_one (formL (s31.own_rd (.tail _ <| .tail _ <| .head _)))) (one_cons rfl (one_cons rfl (one_cons (form_one (formL (s31.own_rd (.tail _ <| .tail _ <| .tail _ <| .head _)))) one_nil))))) (Nat.le_of_ble_eq_true rfl) fun w20 q90 F91 s32 => ?_
    replace s32 : SL w [] w20 [Blk g21 56 [.string ⟨⟨a0.Name⟩⟩, v21, .int .u8 (a0.Sig.Result.toNat : Int), .int .i64 a0.Locals, v20], Blk g15 56 [.string ⟨⟨a0.Name⟩⟩, v21, .int .u8 (a0.Sig.Result.toNat : Int), .int .i64 a0.Locals, v20], Sl Ty.u8 v21 x9, Sl Ty.u8 v20 x8.1, Sl T_api_Instr v18 x7, Sl T_opt_item v1 o0] := s32
    refine st_pr F91 (PR.op (ex_asg rfl) <| PR.nil) fun q91 F92 => ?_
    refine st_end <| then_n ?_
    obtain rfl := some_ok H
    refine wp_ret ?_
    refine jmp_r ?_
    refine ret_gen (rs := [.cell 2 56, .tmp 3]) (vs := [.agg ⟨[.string ⟨⟨a0.Name⟩⟩, v21, .int .u8 (a0.Sig.Result.toNat : Int), .int .i64 a0.Locals, v20]⟩, .int .i64 0]) F92 (by rfl) ⟨_, _, rfl, RV.blk s32 (.head _) rfl Fx.agg56 rfl, _, _, rfl, RV.tmp rfl, rfl⟩ ⟨_, rfl, ⟨v21, v20, rfl, s32.drop.drop.f2.drop.f2.drop⟩⟩
-- The walk of slices.Clone[[]byte,byte].
theorem slices_Clone_byte_byte_c {w : World} {v0 : Value} {a0 : List UInt8} {r : (List UInt8)} (hr0 : Rd Ty.u8 w [] v0 a0) (H : slices_Clone_byte_byte a0 = some r) :
  Calls Try.prog 31 #[v0] w (Ret fun u_ w_ => ∃ u0 : Value, u_ = u0 ∧ SL w [] w_ [Sl Ty.u8 u0 r]) := by
 have s0 : SL w [] w [] := SL.init0 w
 refine call_enter Try.func31 rfl Try.ntmps31 (Nat.le_of_ble_eq_true rfl) (args := [v0]) fun q0 F0 => ?_
 unfold slices_Clone_byte_byte at H
 refine wp_seq <| wp_reg ?_
 refine st_pr F0 (PR.op (ex_asg rfl) <| PR.nil) fun q3 F4 => ?_
 refine st_end <| then_n <| wp_seq <| wp_seq <| wp_reg ?_
 obtain ⟨A29, c30, hv31⟩ := formL (rdL hr0 s0)
 refine st_pr F4 (PR.op (ex_move rfl) <| PR.op (ex_sl_eqf rfl hv31 rfl Try.underlying22) <| PR.nil) fun q33 F34 => ?_
 refine st_end <| then_n ?_
 refine wp_if F34 rfl (fun hb35 => ?_) (fun hb35 => ?_)
 ·have hn36 := nil_of (rdL hr0 s0) hv31 (by simpa using hb35)
  replace H := nil_conv (B := some ([] : List UInt8)) H (by simp [hn36, app])
  refine wp_seq <| wp_reg ?_
  refine st_pr F34 (PR.op (ex_asg rfl) <| PR.nil) fun q75 F76 => ?_
  refine st_end <| then_n ?_
  obtain rfl := some_ok H
  refine wp_ret ?_
  refine then_r ?_
  refine ret_gen (rs := [.tmp 2]) (vs := [.slice none 0 0]) F76 (by rfl) ⟨_, _, rfl, RV.tmp rfl, rfl⟩ ⟨_, rfl, ⟨(.slice none 0 0), rfl, (SL.nilSl (T := Ty.u8) s0)⟩⟩
 ·refine wp_skip <| then_n <| wp_seq <| wp_reg ?_
  refine st_bslice (parts := []) Flat.u8 ([] : List UInt8) F34 s0 Fx.sl22 rfl (by decide) rfl rfl rfl (by simp [Value.cells]) rfl rfl rfl fun v55 w56 q57 F58 s59 => ?_
  obtain ⟨x61, hx62, H⟩ := bind_ok H
  refine st_pr F58 (PR.op (ex_move rfl) <| PR.nil) fun q63 F64 => ?_
  have s70 := s59
  obtain ⟨_, hr_⟩ := (rdL hr0 s70)
  refine st_append_rd Flat.u8 F64 s70 Fx.sl22 rfl rfl rfl rfl hr_ rfl rfl hx62 rfl fun v65 w66 q67 F68 s69 => ?_
  refine st_pr F68 (PR.op (ex_asg rfl) <| PR.nil) fun q71 F72 => ?_
  refine st_end <| then_n ?_
  obtain rfl := some_ok H
  refine wp_ret ?_
  refine ret_gen (rs := [.tmp 2]) (vs := [v65]) F72 (by rfl) ⟨_, _, rfl, RV.tmp rfl, rfl⟩ ⟨_, rfl, ⟨v65, rfl, s69⟩⟩
-- The walk of slices.Clone[[]proviso/api.Type,proviso/api.Type].
theorem slices_Clone_api_Type_api_Type_c {w : World} {v0 : Value} {a0 : List UInt8} {r : (List UInt8)} (hr0 : Rd Ty.u8 w [] v0 a0) (H : slices_Clone_api_Type_api_Type a0 = some r) :
  Calls Try.prog 37 #[v0] w (Ret fun u_ w_ => ∃ u0 : Value, u_ = u0 ∧ SL w [] w_ [Sl Ty.u8 u0 r]) := by
 have s0 : SL w [] w [] := SL.init0 w
 refine call_enter Try.func37 rfl Try.ntmps37 (Nat.le_of_ble_eq_true rfl) (args := [v0]) fun q0 F0 => ?_
 unfold slices_Clone_api_Type_api_Type at H
 refine wp_seq <| wp_reg ?_
 refine st_pr F0 (PR.op (ex_asg rfl) <| PR.nil) fun q3 F4 => ?_
 refine st_end <| then_n <| wp_seq <| wp_seq <| wp_reg ?_
 obtain ⟨A29, c30, hv31⟩ := formL (rdL hr0 s0)
 refine st_pr F4 (PR.op (ex_move rfl) <| PR.op (ex_sl_eqf rfl hv31 rfl Try.underlying51) <| PR.nil) fun q33 F34 => ?_
 refine st_end <| then_n ?_
 refine wp_if F34 rfl (fun hb35 => ?_) (fun hb35 => ?_)
 ·have hn36 := nil_of (rdL hr0 s0) hv31 (by simpa using hb35)
  replace H := nil_conv (B := some ([] : List UInt8)) H (by simp [hn36, app])
  refine wp_seq <| wp_reg ?_
  refine st_pr F34 (PR.op (ex_asg rfl) <| PR.nil) fun q75 F76 => ?_
  refine st_end <| then_n ?_
  obtain rfl := some_ok H
  refine wp_ret ?_
  refine then_r ?_
  refine ret_gen (rs := [.tmp 2]) (vs := [.slice none 0 0]) F76 (by rfl) ⟨_, _, rfl, RV.tmp rfl, rfl⟩ ⟨_, rfl, ⟨(.slice none 0 0), rfl, (SL.nilSl (T := Ty.u8) s0)⟩⟩
 ·refine wp_skip <| then_n <| wp_seq <| wp_reg ?_
  refine st_bslice (parts := []) Flat.u8 ([] : List UInt8) F34 s0 Fx.sl51 rfl (by decide) rfl rfl rfl (by simp [Value.cells]) rfl rfl rfl fun v55 w56 q57 F58 s59 => ?_
  obtain ⟨x61, hx62, H⟩ := bind_ok H
  refine st_pr F58 (PR.op (ex_move rfl) <| PR.nil) fun q63 F64 => ?_
  have s70 := s59
  obtain ⟨_, hr_⟩ := (rdL hr0 s70)
  refine st_append_rd Flat.u8 F64 s70 Fx.sl51 rfl rfl rfl rfl hr_ rfl rfl hx62 rfl fun v65 w66 q67 F68 s69 => ?_
  refine st_pr F68 (PR.op (ex_asg rfl) <| PR.nil) fun q71 F72 => ?_
  refine st_end <| then_n ?_
  obtain rfl := some_ok H
  refine wp_ret ?_
  refine ret_gen (rs := [.tmp 2]) (vs := [v65]) F72 (by rfl) ⟨_, _, rfl, RV.tmp rfl, rfl⟩ ⟨_, rfl, ⟨v65, rfl, s69⟩⟩
-- The walk of proviso/provisoplain.Sig.
theorem provisoplain_Sig_c {w : World} {v0_0 : Value} {a0 : S_api_Sig} {r : S_api_Sig} (hr0_0 : Rd Ty.u8 w [] v0_0 a0.Params) (H : provisoplain_Sig a0 = some r) :
  Calls Try.prog 35 #[.agg ⟨[v0_0, .int .u8 (a0.Result.toNat : Int)]⟩] w (Ret fun u_ w_ => ∃ u0 : Value, u_ = .agg ⟨[u0, .int .u8 (r.Result.toNat : Int)]⟩ ∧ SL w [] w_ [Sl Ty.u8 u0 r.Params]) := by
 have s0 : SL w [] w [] := SL.init0 w
 refine call_enter Try.func35 rfl Try.ntmps35 (Nat.le_of_ble_eq_true rfl) (args := [.agg ⟨[v0_0, .int .u8 (a0.Result.toNat : Int)]⟩]) fun q0 F0 => ?_
 unfold provisoplain_Sig at H
 refine wp_seq <| wp_reg ?_
 refine st_box F0 s0 rfl rfl rfl fun g13 w14 q15 F16 s17 => ?_
 refine st_alloc F16 s17 Fx.zero54 rfl rfl fun g19 w20 q21 F22 s23 => ?_
 refine st_end <| then_n <| wp_seq <| wp_reg ?_
 obtain ⟨x45, hx46, H⟩ := bind_ok H
 refine st_pr F22 (PR.op (ex_fab Fx.fa54_0 rfl rfl) <| PR.op (ex_ld Fx.nag51 rfl (s23.blk_cell (.tail _ <| .head _) rfl)) <| PR.nil) fun q47 F48 => ?_
 refine st_call (args := [.tmp 4]) F48 Fx.fn37 rfl (slices_Clone_api_Type_api_Type_c (a0 := a0.Params)  (hr0_0.pass0 s23) hx46) rfl fun v49 w50 q51 hS53 F52 => ?_
 obtain ⟨_, rfl, hq55⟩ := hS53
 have s54 := s23.add hq55
 refine st_pr F52 (PR.op (ex_fab Fx.fa54_0 rfl rfl) <| PR.nil) fun q58 F59 => ?_
 have s64 := s54.f2
 refine st_store F59 s64 rfl rfl Fx.sz51 (form_cells (formL (s64.own_rd (.tail _ <| .head _)))) (form_one (formL (s64.own_rd (.tail _ <| .head _)))) rfl fun w60 q61 F62 s63 => ?_
 replace s63 : SL w [] w60 [Blk g13 54 [v49, .int .u8 (a0.Result.toNat : Int)], Sl Ty.u8 v49 x45, Blk g19 54 [.slice none 0 0, .int .u8 0]] := s63
 refine st_end <| then_n <| wp_seq <| wp_reg ?_
 refine st_pr F62 (PR.op (ex_ldagg Fx.agg54 rfl (s63.blk_cells (.head _) (o := 0) (ds := [v49, .int .u8 (a0.Result.toNat : Int)]) (fun j u hu => by rw [Nat.zero_add]; exact hu)) rfl) <| PR.nil) fun q72 F73 => ?_
 have s78 := s63.f2
 refine st_storea F73 s78 rfl rfl Fx.sz54 (one_cons (form_one (formL (s78.own_rd (.tail _ <| .tail _ <| .head _)))) (one_cons rfl one_nil)) (Nat.le_of_ble_eq_true rfl) fun w74 q75 F76 s77 => ?_
 replace s77 : SL w [] w74 [Blk g19 54 [v49, .int .u8 (a0.Result.toNat : Int)], Blk g13 54 [v49, .int .u8 (a0.Result.toNat : Int)], Sl Ty.u8 v49 x45] := s77
 refine st_end <| then_n ?_
 obtain rfl := some_ok H
 refine wp_ret ?_
 refine ret_gen (rs := [.cell 2 54]) (vs := [.agg ⟨[v49, .int .u8 (a0.Result.toNat : Int)]⟩]) F76 (by rfl) ⟨_, _, rfl, RV.blk s77 (.head _) rfl Fx.agg54 rfl, rfl⟩ ⟨_, rfl, ⟨v49, rfl, s77.drop.drop⟩⟩
-- The walk of proviso/provisoplain.Func.
theorem provisoplain_Func_c {w : World} {v0_1 v0_4 : Value} {a0 : S_api_Func} {r : S_api_Func} (hr0_1 : Rd Ty.u8 w [] v0_1 a0.Sig.Params) (hr0_4 : Rd Ty.u8 w [] v0_4 a0.Code) (H : provisoplain_Func a0 = some r) :
  Calls Try.prog 24 #[.agg ⟨[.string ⟨⟨a0.Name⟩⟩, v0_1, .int .u8 (a0.Sig.Result.toNat : Int), .int .i64 a0.Locals, v0_4]⟩] w (Ret fun u_ w_ => ∃ u0 u1 : Value, u_ = .agg ⟨[.string ⟨⟨r.Name⟩⟩, u0, .int .u8 (r.Sig.Result.toNat : Int), .int .i64 r.Locals, u1]⟩ ∧ SL w [] w_ [Sl Ty.u8 u0 r.Sig.Params, Sl Ty.u8 u1 r.Code]) := by
 have s0 : SL w [] w [] := SL.init0 w
 refine call_enter Try.func24 rfl Try.ntmps24 (Nat.le_of_ble_eq_true rfl) (args := [.agg ⟨[.string ⟨⟨a0.Name⟩⟩, v0_1, .int .u8 (a0.Sig.Result.toNat : Int), .int .i64 a0.Locals, v0_4]⟩]) fun q0 F0 => ?_
 unfold provisoplain_Func at H
 refine wp_seq <| wp_reg ?_
 refine st_box F0 s0 rfl rfl rfl fun g13 w14 q15 F16 s17 => ?_
 refine st_alloc F16 s17 Fx.zero56 rfl rfl fun g19 w20 q21 F22 s23 => ?_
 refine st_end <| then_n <| wp_seq <| wp_reg ?_
 obtain ⟨x45, hx46, H⟩ := bind_ok H
 refine st_pr F22 (PR.op (ex_fab Fx.fa56_1 rfl rfl) <| PR.op (ex_ldagg Fx.agg54 rfl (s23.blk_cells (.tail _ <| .head _) (o := 1) (ds := [v0_1, .int .u8 (a0.Sig.Result.toNat : Int)]) (subcells _ rfl)) rfl) <| PR.nil) fun q47 F48 => ?_
 refine st_call (args := [.tmp 4]) F48 Fx.fn35 rfl (provisoplain_Sig_c (a0 := (⟨a0.Sig.Params, a0.Sig.Result⟩ : S_api_Sig))  (hr0_1.pass0 s23) hx46) rfl fun v49 w50 q51 hS53 F52 => ?_
 obtain ⟨v56, rfl, hq55⟩ := hS53
 have s54 := s23.add hq55
 refine st_pr F52 (PR.op (ex_fab Fx.fa56_1 rfl rfl) <| PR.nil) fun q58 F59 => ?_
 have s64 := s54.f2
 refine st_storea F59 s64 rfl rfl Fx.sz54 (one_cons (form_one (formL (s64.own_rd (.tail _ <| .head _)))) (one_cons rfl one_nil)) (Nat.le_of_ble_eq_true rfl) fun w60 q61 F62 s63 => ?_
 replace s63 : SL w [] w60 [Blk g13 56 [.string ⟨⟨a0.Name⟩⟩, v56, .int .u8 (x45.Result.toNat : Int), .int .i64 a0.Locals, v0_4], Sl Ty.u8 v56 x45.Params, Blk g19 56 [.string ⟨⟨[]⟩⟩, .slice none 0 0, .int .u8 0, .int .i64 0, .slice none 0 0]] := s63
 refine st_end <| then_n <| wp_seq <| wp_reg ?_
 obtain ⟨x85, hx86, H⟩ := bind_ok H
 refine st_pr F62 (PR.op (ex_fab Fx.fa56_3 rfl rfl) <| PR.op (ex_ld Fx.nag22 rfl (s63.blk_cell (.head _) rfl)) <| PR.nil) fun q87 F88 => ?_
 refine st_call (args := [.tmp 8]) F88 Fx.fn31 rfl (slices_Clone_byte_byte_c (a0 := a0.Code)  (hr0_4.pass0 s63) hx86) rfl fun v89 w90 q91 hS93 F92 => ?_
 obtain ⟨_, rfl, hq95⟩ := hS93
 have s94 := s63.add hq95
 refine st_pr F92 (PR.op (ex_fab Fx.fa56_3 rfl rfl) <| PR.nil) fun q98 F99 => ?_
 have s1 := s94.f1
 refine st_store F99 s1 rfl rfl Fx.sz22 (form_cells (formL (s1.own_rd (.tail _ <| .head _)))) (form_one (formL (s1.own_rd (.tail _ <| .head _)))) rfl fun w0 q1 F1 s2 => ?_
 replace s2 : SL w [] w0 [Blk g13 56 [.string ⟨⟨a0.Name⟩⟩, v56, .int .u8 (x45.Result.toNat : Int), .int .i64 a0.Locals, v89], Sl Ty.u8 v89 x85, Sl Ty.u8 v56 x45.Params, Blk g19 56 [.string ⟨⟨[]⟩⟩, .slice none 0 0, .int .u8 0, .int .i64 0, .slice none 0 0]] := s2
 refine st_end <| then_n <| wp_seq <| wp_reg ?_
 refine st_pr F1 (PR.op (ex_ldagg Fx.agg56 rfl (s2.blk_cells (.head _) (o := 0) (ds := [.string ⟨⟨a0.Name⟩⟩, v56, .int .u8 (x45.Result.toNat : Int), .int .i64 a0.Locals, v89]) (fun j u hu => by rw [Nat.zero_add]; exact hu)) rfl) <| PR.nil) fun q2 F2 => ?_
 have s3 := s2.f3
 refine st_storea F2 s3 rfl rfl Fx.sz56 (one_cons rfl (one_cons (form_one (formL (s3.own_rd (.tail _ <| .tail _ <| .tail _ <| .head _)))) (one_cons rfl (one_cons rfl (one_cons (form_one (formL (s3.own_rd (.tail _ <| .tail _ <| .head _)))) one_nil))))) (Nat.le_of_ble_eq_true rfl) fun w1 q3 F3 s4 => ?_
 replace s4 : SL w [] w1 [Blk g19 56 [.string ⟨⟨a0.Name⟩⟩, v56, .int .u8 (x45.Result.toNat : Int), .int .i64 a0.Locals, v89], Blk g13 56 [.string ⟨⟨a0.Name⟩⟩, v56, .int .u8 (x45.Result.toNat : Int), .int .i64 a0.Locals, v89], Sl Ty.u8 v89 x85, Sl Ty.u8 v56 x45.Params] := s4
 refine st_end <| then_n ?_
 obtain rfl := some_ok H
 refine wp_ret ?_
 refine ret_gen (rs := [.cell 2 56]) (vs := [.agg ⟨[.string ⟨⟨a0.Name⟩⟩, v56, .int .u8 (x45.Result.toNat : Int), .int .i64 a0.Locals, v89]⟩]) F3 (by rfl) ⟨_, _, rfl, RV.blk s4 (.head _) rfl Fx.agg56 rfl, rfl⟩ ⟨_, rfl, ⟨v56, v89, rfl, s4.drop.drop.f1⟩⟩
-- The walk of proviso/provisoref04.wide.
theorem provisoref04_wide_c {w : World} {a0 : UInt8} {r : Int × Int}  (H : provisoref04_wide a0 = some r) :
  Calls Try.prog 69 #[.int .u8 (a0.toNat : Int)] w (Ret fun u_ w_ => u_ = .tuple ⟨[.int .i64 r.1, .int .i64 r.2]⟩ ∧ SL w [] w_ []) := by
 have s0 : SL w [] w [] := SL.init0 w
 refine call_enter Try.func69 rfl Try.ntmps69 (Nat.le_of_ble_eq_true rfl) (args := [.int .u8 (a0.toNat : Int)]) fun q0 F0 => ?_
 unfold provisoref04_wide at H
 refine wp_seq <| wp_reg ?_
 refine st_pr F0 (PR.op (ex_asg rfl) <| PR.op (ex_asg rfl) <| PR.nil) fun q3 F4 => ?_
 refine st_end <| then_n <| wp_seq <| wp_seq <| wp_reg ?_
 refine st_pr F4 (PR.op (ex_move rfl) <| PR.nil) fun q1 F1 => ?_
 refine st_end <| then_n <| wp_block <| wp_seq <| wp_reg ?_
 refine st_pr F1 (PR.op (ex_eq rfl rfl) <| PR.op (ex_asg rfl) <| PR.nil) fun q2 F2 => ?_
 refine st_end <| then_n ?_
 refine wp_if F2 rfl (fun hb0 => ?_) (fun hb0 => ?_)
 ·replace H := ite_t hb0 H
  refine wp_seq <| wp_reg ?_
  refine st_pr F2 (PR.op (ex_asg rfl) <| PR.op (ex_asg rfl) <| PR.nil) fun q4 F3 => ?_
  refine st_end <| then_n ?_
  obtain rfl := some_ok H
  refine wp_ret ?_
  refine blk_r <| then_r ?_
  refine ret_gen (rs := [.tmp 2, .tmp 3]) (vs := [.int .i64 4, .int .i64 0]) F3 (by rfl) ⟨_, _, rfl, RV.tmp rfl, _, _, rfl, RV.tmp rfl, rfl⟩ ⟨_, rfl, ⟨rfl, s0⟩⟩
 ·replace H := ite_f hb0 H
  refine wp_seq ?_
  obtain ⟨o0, H0, R0⟩ := bind_ok H
  clear H
  refine wp_cutn (fun a w_ => Fr a 22 [(4, .int .u8 (a0.toNat : Int)), (7, .bool o0)] ∧ SL w [] w_ []) ?_ ?_
  ·have H := H0
   refine wp_seq <| wp_reg ?_
   refine st_pr F2 (PR.op (ex_eq rfl rfl) <| PR.op (ex_asg rfl) <| PR.nil) fun q5 F5 => ?_
   refine st_end <| then_n ?_
   refine wp_if F5 rfl (fun hb1 => ?_) (fun hb1 => ?_)
   ·replace H := ite_t hb1 H
    refine wp_skip ?_
    obtain rfl := some_ok H
    refine then_n ?_
    exact ⟨F5.sub ⟨rfl, rfl, trivial⟩, s0⟩
   ·replace H := ite_f hb1 H
    refine wp_reg ?_
    refine st_pr F5 (PR.op (ex_eq rfl rfl) <| PR.op (ex_asg rfl) <| PR.nil) fun q6 F6 => ?_
    refine st_end ?_
    obtain rfl := some_ok H
    refine then_n ?_
    exact ⟨F6.sub ⟨rfl, rfl, trivial⟩, s0⟩
  ·intro q7 w0 hJ
   obtain ⟨F7, s1⟩ := hJ
   have H := R0
   clear R0 H0
   refine then_n ?_
   refine wp_if F7 rfl (fun hb2 => ?_) (fun hb2 => ?_)
   ·replace H := ite_t hb2 H
    refine wp_seq <| wp_reg ?_
    refine st_pr F7 (PR.op (ex_asg rfl) <| PR.op (ex_asg rfl) <| PR.nil) fun q8 F8 => ?_
    refine st_end <| then_n ?_
    obtain rfl := some_ok H
    refine wp_ret ?_
    refine blk_r <| then_r ?_
    refine ret_gen (rs := [.tmp 2, .tmp 3]) (vs := [.int .i64 2, .int .i64 0]) F8 (by rfl) ⟨_, _, rfl, RV.tmp rfl, _, _, rfl, RV.tmp rfl, rfl⟩ ⟨_, rfl, ⟨rfl, s1⟩⟩
   ·replace H := ite_f hb2 H
    refine wp_seq ?_
    obtain ⟨o1, H1, R1⟩ := bind_ok H
    clear H
    refine wp_cutn (fun a w_ => Fr a 22 [(4, .int .u8 (a0.toNat : Int)), (10, .bool o1)] ∧ SL w [] w_ []) ?_ ?_
    ·have H := H1
     refine wp_seq <| wp_reg ?_
     refine st_pr F7 (PR.op (ex_eq rfl rfl) <| PR.op (ex_asg rfl) <| PR.nil) fun q9 F9 => ?_
     refine st_end <| then_n ?_
     refine wp_if F9 rfl (fun hb3 => ?_) (fun hb3 => ?_)
     ·replace H := ite_t hb3 H
      refine wp_skip ?_
      obtain rfl := some_ok H
      refine then_n ?_
      exact ⟨F9.sub ⟨rfl, rfl, trivial⟩, s1⟩
     ·replace H := ite_f hb3 H
      refine wp_reg ?_
      refine st_pr F9 (PR.op (ex_eq rfl rfl) <| PR.op (ex_asg rfl) <| PR.nil) fun q10 F10 => ?_
      refine st_end ?_
      obtain rfl := some_ok H
      refine then_n ?_
      exact ⟨F10.sub ⟨rfl, rfl, trivial⟩, s1⟩
    ·intro q11 w1 hJ
     obtain ⟨F11, s2⟩ := hJ
     have H := R1
     clear R1 H1
     refine then_n ?_
     refine wp_if F11 rfl (fun hb4 => ?_) (fun hb4 => ?_)
     ·replace H := ite_t hb4 H
      refine wp_seq <| wp_reg ?_
      refine st_pr F11 (PR.op (ex_asg rfl) <| PR.op (ex_asg rfl) <| PR.nil) fun q12 F12 => ?_
      refine st_end <| then_n ?_
      obtain rfl := some_ok H
      refine wp_ret ?_
      refine blk_r <| then_r ?_
      refine ret_gen (rs := [.tmp 2, .tmp 3]) (vs := [.int .i64 1, .int .i64 1]) F12 (by rfl) ⟨_, _, rfl, RV.tmp rfl, _, _, rfl, RV.tmp rfl, rfl⟩ ⟨_, rfl, ⟨rfl, s2⟩⟩
     ·replace H := ite_f hb4 H
      refine wp_seq ?_
      obtain ⟨o2, H2, R2⟩ := bind_ok H
      clear H
      refine wp_cutn (fun a w_ => Fr a 22 [(13, .bool o2)] ∧ SL w [] w_ []) ?_ ?_
      ·have H := H2
       refine wp_seq <| wp_reg ?_
       refine st_pr F11 (PR.op (ex_eq rfl rfl) <| PR.op (ex_asg rfl) <| PR.nil) fun q13 F13 => ?_
       refine st_end <| then_n ?_
       refine wp_if F13 rfl (fun hb5 => ?_) (fun hb5 => ?_)
       ·replace H := ite_t hb5 H
        refine wp_skip ?_
        obtain rfl := some_ok H
        refine then_n ?_
        exact ⟨F13.sub ⟨rfl, trivial⟩, s2⟩
       ·replace H := ite_f hb5 H
        refine wp_seq <| wp_reg ?_
        refine st_pr F13 (PR.op (ex_eq rfl rfl) <| PR.op (ex_asg rfl) <| PR.nil) fun q14 F14 => ?_
        refine st_end <| then_n ?_
        refine wp_if F14 rfl (fun hb6 => ?_) (fun hb6 => ?_)
        ·replace H := ite_t hb6 H
         refine wp_skip ?_
         obtain rfl := some_ok H
         refine then_n ?_
         exact ⟨F14.sub ⟨rfl, trivial⟩, s2⟩
        ·replace H := ite_f hb6 H
         refine wp_seq <| wp_reg ?_
         refine st_pr F14 (PR.op (ex_eq rfl rfl) <| PR.op (ex_asg rfl) <| PR.nil) fun q15 F15 => ?_
         refine st_end <| then_n ?_
         refine wp_if F15 rfl (fun hb7 => ?_) (fun hb7 => ?_)
         ·replace H := ite_t hb7 H
          refine wp_skip ?_
          obtain rfl := some_ok H
          refine then_n ?_
          exact ⟨F15.sub ⟨rfl, trivial⟩, s2⟩
         ·replace H := ite_f hb7 H
          refine wp_seq <| wp_reg ?_
          refine st_pr F15 (PR.op (ex_eq rfl rfl) <| PR.op (ex_asg rfl) <| PR.nil) fun q16 F16 => ?_
          refine st_end <| then_n ?_
          refine wp_if F16 rfl (fun hb8 => ?_) (fun hb8 => ?_)
          ·replace H := ite_t hb8 H
           refine wp_skip ?_
           obtain rfl := some_ok H
           refine then_n ?_
           exact ⟨F16.sub ⟨rfl, trivial⟩, s2⟩
          ·replace H := ite_f hb8 H
           refine wp_seq <| wp_reg ?_
           refine st_pr F16 (PR.op (ex_eq rfl rfl) <| PR.op (ex_asg rfl) <| PR.nil) fun q17 F17 => ?_
           refine st_end <| then_n ?_
           refine wp_if F17 rfl (fun hb9 => ?_) (fun hb9 => ?_)
           ·replace H := ite_t hb9 H
            refine wp_skip ?_
            obtain rfl := some_ok H
            refine then_n ?_
            exact ⟨F17.sub ⟨rfl, trivial⟩, s2⟩
           ·replace H := ite_f hb9 H
            refine wp_seq <| wp_reg ?_
            refine st_pr F17 (PR.op (ex_eq rfl rfl) <| PR.op (ex_asg rfl) <| PR.nil) fun q18 F18 => ?_
            refine st_end <| then_n ?_
            refine wp_if F18 rfl (fun hb10 => ?_) (fun hb10 => ?_)
            ·replace H := ite_t hb10 H
             refine wp_skip ?_
             obtain rfl := some_ok H
             refine then_n ?_
             exact ⟨F18.sub ⟨rfl, trivial⟩, s2⟩
            ·replace H := ite_f hb10 H
             refine wp_seq <| wp_reg ?_
             refine st_pr F18 (PR.op (ex_eq rfl rfl) <| PR.op (ex_asg rfl) <| PR.nil) fun q19 F19 => ?_
             refine st_end <| then_n ?_
             refine wp_if F19 rfl (fun hb11 => ?_) (fun hb11 => ?_)
             ·replace H := ite_t hb11 H
              refine wp_skip ?_
              obtain rfl := some_ok H
              refine then_n ?_
              exact ⟨F19.sub ⟨rfl, trivial⟩, s2⟩
             ·replace H := ite_f hb11 H
              refine wp_reg ?_
              refine st_pr F19 (PR.op (ex_eq rfl rfl) <| PR.op (ex_asg rfl) <| PR.nil) fun q20 F20 => ?_
              refine st_end ?_
              obtain rfl := some_ok H
              refine then_n ?_
              exact ⟨F20.sub ⟨rfl, trivial⟩, s2⟩
      ·intro q21 w2 hJ
       obtain ⟨F21, s3⟩ := hJ
       have H := R2
       clear R2 H2
       refine then_n ?_
       refine wp_if F21 rfl (fun hb12 => ?_) (fun hb12 => ?_)
       ·replace H := ite_t hb12 H
        refine wp_seq <| wp_reg ?_
        refine st_pr F21 (PR.op (ex_asg rfl) <| PR.op (ex_asg rfl) <| PR.nil) fun q22 F22 => ?_
        refine st_end <| then_n ?_
        obtain rfl := some_ok H
        refine wp_ret ?_
        refine blk_r <| then_r ?_
        refine ret_gen (rs := [.tmp 2, .tmp 3]) (vs := [.int .i64 1, .int .i64 0]) F22 (by rfl) ⟨_, _, rfl, RV.tmp rfl, _, _, rfl, RV.tmp rfl, rfl⟩ ⟨_, rfl, ⟨rfl, s3⟩⟩
       ·replace H := ite_f hb12 H
        refine wp_skip ?_
        refine blk_n ?_
        refine then_n <| wp_seq <| wp_reg ?_
        refine st_pr F21 (PR.op (ex_asg rfl) <| PR.op (ex_asg rfl) <| PR.nil) fun q23 F23 => ?_
        refine st_end <| then_n ?_
        obtain rfl := some_ok H
        refine wp_ret ?_
        refine ret_gen (rs := [.tmp 2, .tmp 3]) (vs := [.int .i64 0, .int .i64 0]) F23 (by rfl) ⟨_, _, rfl, RV.tmp rfl, _, _, rfl, RV.tmp rfl, rfl⟩ ⟨_, rfl, ⟨rfl, s3⟩⟩
-- The walk of proviso/provisoref04.Size.
theorem provisoref04_Size_c {w : World} {a0 : UInt8} {r : Int}  (H : provisoref04_Size a0 = some r) :
  Calls Try.prog 51 #[.int .u8 (a0.toNat : Int)] w (Ret fun u_ w_ => u_ = .int .i64 r ∧ SL w [] w_ []) := by
 have s0 : SL w [] w [] := SL.init0 w
 refine call_enter Try.func51 rfl Try.ntmps51 (Nat.le_of_ble_eq_true rfl) (args := [.int .u8 (a0.toNat : Int)]) fun q0 F0 => ?_
 unfold provisoref04_Size at H
 refine wp_seq <| wp_reg ?_
 refine st_pr F0 (PR.op (ex_asg rfl) <| PR.nil) fun q3 F4 => ?_
 refine st_end <| then_n <| wp_seq <| wp_seq <| wp_reg ?_
 refine st_pr F4 (PR.op (ex_move rfl) <| PR.op (ex_ge rfl rfl) <| PR.nil) fun q16 F17 => ?_
 refine st_end <| then_n ?_
 refine wp_if F17 rfl (fun hb18 => ?_) (fun hb18 => ?_)
 ·replace H := ite_t hb18 H
  refine wp_seq <| wp_reg ?_
  refine st_pr F17 (PR.op (ex_asg rfl) <| PR.nil) fun q21 F22 => ?_
  refine st_end <| then_n ?_
  obtain rfl := some_ok H
  refine wp_ret ?_
  refine then_r ?_
  refine ret_gen (rs := [.tmp 2]) (vs := [.int .i64 0]) F22 (by rfl) ⟨_, _, rfl, RV.tmp rfl, rfl⟩ ⟨_, rfl, ⟨rfl, s0⟩⟩
 ·replace H := ite_f hb18 H
  refine wp_skip <| then_n <| wp_seq <| wp_reg ?_
  obtain ⟨x36, hx37, H⟩ := bind_ok H
  refine st_pr F17 (PR.op (ex_move rfl) <| PR.nil) fun q38 F39 => ?_
  refine st_call (args := [.tmp 8]) F39 Fx.fn69 rfl (provisoref04_wide_c (a0 := a0)   hx37) rfl fun v40 w41 q42 hS44 F43 => ?_
  obtain ⟨rfl, hq46⟩ := hS44
  have s45 := s0.add hq46
  refine st_pr F43 (PR.op (ex_move rfl) <| PR.op (ex_extract (v := .int .i64 x36.1) rfl rfl) <| PR.op (ex_extract (v := .int .i64 x36.2) rfl rfl) <| PR.op (ex_asg rfl) <| PR.op (ex_asg rfl) <| PR.nil) fun q47 F48 => ?_
  refine st_end <| then_n <| wp_seq <| wp_reg ?_
  refine st_pr F48 (PR.op (ex_move rfl) <| PR.op (ex_add rfl rfl) <| PR.op (ex_move rfl) <| PR.op (ex_add rfl rfl) <| PR.op (ex_asg rfl) <| PR.nil) fun q51 F52 => ?_
  refine st_end <| then_n ?_
  obtain rfl := some_ok H
  refine wp_ret ?_
  refine ret_gen (rs := [.tmp 2]) (vs := [.int .i64 (wr ((wr (1 + x36.1)) + x36.2))]) F52 (by rfl) ⟨_, _, rfl, RV.tmp rfl, rfl⟩ ⟨_, rfl, ⟨rfl, s45⟩⟩
-- The walk of proviso/provisoref04.take.
theorem provisoref04_take_c {w : World} {v0 : Value} {a0 : List UInt8} {a1 : Int} {r : Int} (hr0 : Rd Ty.u8 w [] v0 a0) (H : provisoref04_take a0 a1 = some r) :
  Calls Try.prog 70 #[v0, .int .i64 a1] w (Ret fun u_ w_ => u_ = .int .i64 r ∧ SL w [] w_ []) := by
 have s0 : SL w [] w [] := SL.init0 w
 refine call_enter Try.func70 rfl Try.ntmps70 (Nat.le_of_ble_eq_true rfl) (args := [v0, .int .i64 a1]) fun q0 F0 => ?_
 unfold provisoref04_take at H
 refine wp_seq <| wp_reg ?_
 refine st_pr F0 (PR.op (ex_asg rfl) <| PR.nil) fun q3 F4 => ?_
 refine st_end <| then_n <| wp_seq <| wp_reg ?_
 refine st_pr F4 (PR.op (ex_asg rfl) <| PR.nil) fun q7 F8 => ?_
 refine st_end <| then_n <| wp_seq <| wp_seq <| wp_reg ?_
 refine st_pr F8 (PR.op (ex_asg rfl) <| PR.nil) fun q1 F1 => ?_
 refine st_end <| then_n ?_
 obtain ⟨o0, H0, R0⟩ := bind_ok H
 clear H
 refine wp_cutn (fun a w_ => Fr a 29 [(1, .int .i64 a1), (5, .int .i64 o0)] ∧ SL w [] w_ []) ?_ ?_
 ·have H := H0
  refine wp_block ?_
  refine wp_lp (provisoref04_take_b0 a0 a1) (fun s1 a w_ => Fr a 29 [(0, v0), (1, .int .i64 a1), (5, .int .i64 s1.1), (6, .int .i64 s1.2)] ∧ SL w [] w_ []) H ?_ ?_
  ·exact ⟨F1.sub ⟨rfl, rfl, rfl, rfl, trivial⟩, s0⟩
  ·intro s1 q2 w0 hI0 o1 H hr
   obtain ⟨F2, s2⟩ := hI0
   replace H : provisoref04_take_b0 a0 a1 s1 = some o1 := H
   unfold provisoref04_take_b0 at H
   refine wp_seq <| wp_seq <| wp_reg ?_
   refine st_pr F2 (PR.op (ex_move rfl) <| PR.op (ex_move rfl) <| PR.op (ex_lt rfl rfl) <| PR.nil) fun q4 F3 => ?_
   refine st_end <| then_n ?_
   refine wp_if F3 rfl (fun hb0 => ?_) (fun hb0 => ?_)
   ·replace H := ite_t hb0 H
    refine wp_skip <| then_n <| wp_seq <| wp_block <| wp_reg ?_
    obtain ⟨x0, hx0, H⟩ := bind_ok H
    obtain ⟨a2, hi0, hc0⟩ := idxL Flat.u8 (rdL hr0 s2) Fx.sl22 rfl hx0
    refine st_pr F3 (PR.op (ex_move rfl) <| PR.op (ex_mul rfl rfl) <| PR.op (ex_move rfl) <| PR.op (ex_move rfl) <| PR.op (hi0 _ _ _ _ _ _ _ _ _ _ rfl rfl) <| PR.op (ex_ld Fx.nag5 rfl (Cells.at_ hc0 (o := 0) rfl)) <| PR.op (ex_cv864 rfl Try.underlying5 Try.underlying3) <| PR.op (ex_add rfl rfl) <| PR.op (ex_asg rfl) <| PR.nil) fun q5 F5 => ?_
    refine st_end ?_
    refine blk_n ?_
    refine then_n <| wp_reg ?_
    refine st_pr F5 (PR.op (ex_move rfl) <| PR.op (ex_add rfl rfl) <| PR.op (ex_asg rfl) <| PR.nil) fun q6 F6 => ?_
    refine st_end ?_
    obtain rfl := some_ok H
    refine then_n ?_
    exact ⟨_, rfl, F6.sub ⟨rfl, rfl, rfl, rfl, trivial⟩, s2⟩
   ·replace H := ite_f hb0 H
    refine wp_exit <| then_x <| then_x <| blk_hit ?_
    obtain rfl := some_ok H
    obtain rfl := hr _ rfl
    refine then_n ?_
    exact ⟨F3.sub ⟨rfl, rfl, trivial⟩, s2⟩
 ·intro q8 w1 hJ
  obtain ⟨F7, s3⟩ := hJ
  have H := R0
  clear R0 H0
  refine then_n <| wp_seq <| wp_seq <| wp_reg ?_
  refine st_pr F7 (PR.op (ex_move rfl) <| PR.op (ex_eq rfl rfl) <| PR.op (ex_move rfl) <| PR.nil) fun q9 F9 => ?_
  refine bool_split (a1 == 4) (fun hb1 => ?_) (fun hb1 => ?_)
  ·replace H := ite_t hb1 H
   refine st_gop F9 rfl rfl (look_b rfl hb1) (ex_move rfl) rfl rfl fun q10 F10 => ?_
   refine st_gop F10 rfl rfl (look_b rfl hb1) (ex_gt rfl rfl) rfl rfl fun q11 F11 => ?_
   refine st_pr F11 (PR.op (ex_pick_t (ev_b rfl hb1) rfl) <| PR.nil) fun q12 F12 => ?_
   refine st_end <| then_n ?_
   refine wp_if F12 rfl (fun hb2 => ?_) (fun hb2 => ?_)
   ·replace H := ite_t hb2 H
    refine wp_reg ?_
    refine st_pr F12 (PR.op (ex_move rfl) <| PR.op (ex_sub rfl rfl) <| PR.op (ex_asg rfl) <| PR.nil) fun q13 F13 => ?_
    refine st_end <| then_n <| wp_seq <| wp_reg ?_
    refine st_pr F13 (PR.op (ex_move rfl) <| PR.op (ex_asg rfl) <| PR.nil) fun q14 F14 => ?_
    refine st_end <| then_n ?_
    obtain rfl := some_ok H
    refine wp_ret ?_
    refine ret_gen (rs := [.tmp 4]) (vs := [.int .i64 (wr (o0 - 4294967296))]) F14 (by rfl) ⟨_, _, rfl, RV.tmp rfl, rfl⟩ ⟨_, rfl, ⟨rfl, s3⟩⟩
   ·replace H := ite_f hb2 H
    refine wp_skip <| then_n <| wp_seq <| wp_reg ?_
    refine st_pr F12 (PR.op (ex_move rfl) <| PR.op (ex_asg rfl) <| PR.nil) fun q15 F15 => ?_
    refine st_end <| then_n ?_
    obtain rfl := some_ok H
    refine wp_ret ?_
    refine ret_gen (rs := [.tmp 4]) (vs := [.int .i64 o0]) F15 (by rfl) ⟨_, _, rfl, RV.tmp rfl, rfl⟩ ⟨_, rfl, ⟨rfl, s3⟩⟩
  ·replace H := ite_f hb1 H
   refine st_gskip F9 rfl rfl (look_b rfl hb1) Bool.noConfusion rfl rfl fun q16 F16 => ?_
   refine st_gskip F16 rfl rfl (look_b rfl hb1) Bool.noConfusion rfl rfl fun q17 F17 => ?_
   refine st_pr F17 (PR.op (ex_pick_f (ev_b rfl hb1) rfl) <| PR.nil) fun q18 F18 => ?_
   refine st_end <| then_n ?_
   refine wp_if_f F18 rfl ?_
   refine wp_skip <| then_n <| wp_seq <| wp_reg ?_
   refine st_pr F18 (PR.op (ex_move rfl) <| PR.op (ex_asg rfl) <| PR.nil) fun q19 F19 => ?_
   refine st_end <| then_n ?_
   obtain rfl := some_ok H
   refine wp_ret ?_
   refine ret_gen (rs := [.tmp 4]) (vs := [.int .i64 o0]) F19 (by rfl) ⟨_, _, rfl, RV.tmp rfl, rfl⟩ ⟨_, rfl, ⟨rfl, s3⟩⟩
-- The walk of proviso/provisoref04.Decode.
theorem provisoref04_Decode_c {w : World} {v0 : Value} {a0 : List UInt8} {a1 : Int} {r : S_api_Instr × Int} (hr0 : Rd Ty.u8 w [] v0 a0) (H : provisoref04_Decode a0 a1 = some r) :
  Calls Try.prog 50 #[v0, .int .i64 a1] w (Ret fun u_ w_ => u_ = .tuple ⟨[.agg ⟨[.int .i64 r.1.At, .int .u8 (r.1.Op.toNat : Int), .int .i64 r.1.A, .int .i64 r.1.B]⟩, .int .i64 r.2]⟩ ∧ SL w [] w_ []) := by
 have s0 : SL w [] w [] := SL.init0 w
 refine call_enter Try.func50 rfl Try.ntmps50 (Nat.le_of_ble_eq_true rfl) (args := [v0, .int .i64 a1]) fun q0 F0 => ?_
 unfold provisoref04_Decode at H
 refine wp_seq <| wp_reg ?_
 refine st_alloc F0 s0 Fx.zero90 rfl rfl fun g9 w10 q11 F12 s13 => ?_
 refine st_pr F12 (PR.op (ex_asg rfl) <| PR.nil) fun q15 F16 => ?_
 refine st_end <| then_n <| wp_seq <| wp_reg ?_
 refine st_alloc F16 s13 Fx.zero90 rfl rfl fun g23 w24 q25 F26 s27 => ?_
 refine st_end <| then_n <| wp_seq <| wp_seq <| wp_reg ?_
 refine st_pr F26 (PR.op (ex_move rfl) <| PR.op (ex_lt rfl rfl) <| PR.op (ex_move rfl) <| PR.nil) fun q89 F90 => ?_
 refine bool_split (decide (a1 < 0)) (fun hb91 => ?_) (fun hb91 => ?_)
 ·replace H := ite_t hb91 H
  refine st_gskip F90 rfl rfl (look_b rfl hb91) Bool.noConfusion rfl rfl fun q92 F93 => ?_
  refine st_gskip F93 rfl rfl (look_b rfl hb91) Bool.noConfusion rfl rfl fun q94 F95 => ?_
  refine st_gskip F95 rfl rfl (look_b rfl hb91) Bool.noConfusion rfl rfl fun q96 F97 => ?_
  refine st_gskip F97 rfl rfl (look_b rfl hb91) Bool.noConfusion rfl rfl fun q98 F99 => ?_
  refine st_pr F99 (PR.op (ex_pick_t (ev_b rfl hb91) rfl) <| PR.nil) fun q1 F1 => ?_
  refine st_end <| then_n ?_
  refine wp_if_t F1 rfl ?_
  refine wp_seq <| wp_reg ?_
  refine st_pr F1 (PR.op (ex_ldagg Fx.agg90 rfl (s27.blk_cells (.head _) (o := 0) (ds := [.int .i64 0, .int .u8 0, .int .i64 0, .int .i64 0]) (fun j u hu => by rw [Nat.zero_add]; exact hu)) rfl) <| PR.nil) fun q2 F2 => ?_
  have s1 := s27.f1
  refine st_storea F2 s1 rfl rfl Fx.sz90 (one_cons rfl (one_cons rfl (one_cons rfl (one_cons rfl one_nil)))) (Nat.le_of_ble_eq_true rfl) fun w0 q3 F3 s2 => ?_
  replace s2 : SL w [] w0 [Blk g9 90 [.int .i64 0, .int .u8 0, .int .i64 0, .int .i64 0], Blk g23 90 [.int .i64 0, .int .u8 0, .int .i64 0, .int .i64 0]] := s2
  refine st_pr F3 (PR.op (ex_asg rfl) <| PR.nil) fun q4 F4 => ?_
  refine st_end <| then_n ?_
  obtain rfl := some_ok H
  refine wp_ret ?_
  refine then_r ?_
  refine ret_gen (rs := [.cell 4 90, .tmp 5]) (vs := [.agg ⟨[.int .i64 0, .int .u8 0, .int .i64 0, .int .i64 0]⟩, .int .i64 1]) F4 (by rfl) ⟨_, _, rfl, RV.blk s2 (.head _) rfl Fx.agg90 rfl, _, _, rfl, RV.tmp rfl, rfl⟩ ⟨_, rfl, ⟨rfl, s2.drop.drop⟩⟩
 ·replace H := ite_f hb91 H
  refine st_gop F90 rfl rfl (look_b rfl hb91) (ex_move rfl) rfl rfl fun q5 F5 => ?_
  refine st_gop F5 rfl rfl (look_b rfl hb91) (ex_move rfl) rfl rfl fun q6 F6 => ?_
  refine st_gop F6 rfl rfl (look_b rfl hb91) (ex_len rfl Try.underlying22 (formL (rdL hr0 s27))) rfl rfl fun q7 F7 => ?_
  refine st_gop F7 rfl rfl (look_b rfl hb91) (ex_gt rfl rfl) rfl rfl fun q8 F8 => ?_
  refine st_pr F8 (PR.op (ex_pick_f (ev_b rfl hb91) rfl) <| PR.nil) fun q9 F9 => ?_
  refine st_end <| then_n ?_
  refine wp_if F9 rfl (fun hb0 => ?_) (fun hb0 => ?_)
  ·replace H := ite_t hb0 H
   refine wp_seq <| wp_reg ?_
   refine st_pr F9 (PR.op (ex_ldagg Fx.agg90 rfl (s27.blk_cells (.head _) (o := 0) (ds := [.int .i64 0, .int .u8 0, .int .i64 0, .int .i64 0]) (fun j u hu => by rw [Nat.zero_add]; exact hu)) rfl) <| PR.nil) fun q10 F10 => ?_
   have s3 := s27.f1
   refine st_storea F10 s3 rfl rfl Fx.sz90 (one_cons rfl (one_cons rfl (one_cons rfl (one_cons rfl one_nil)))) (Nat.le_of_ble_eq_true rfl) fun w1 q12 F11 s4 => ?_
   replace s4 : SL w [] w1 [Blk g9 90 [.int .i64 0, .int .u8 0, .int .i64 0, .int .i64 0], Blk g23 90 [.int .i64 0, .int .u8 0, .int .i64 0, .int .i64 0]] := s4
   refine st_pr F11 (PR.op (ex_asg rfl) <| PR.nil) fun q13 F13 => ?_
   refine st_end <| then_n ?_
   obtain rfl := some_ok H
   refine wp_ret ?_
   refine then_r ?_
   refine ret_gen (rs := [.cell 4 90, .tmp 5]) (vs := [.agg ⟨[.int .i64 0, .int .u8 0, .int .i64 0, .int .i64 0]⟩, .int .i64 1]) F13 (by rfl) ⟨_, _, rfl, RV.blk s4 (.head _) rfl Fx.agg90 rfl, _, _, rfl, RV.tmp rfl, rfl⟩ ⟨_, rfl, ⟨rfl, s4.drop.drop⟩⟩
  ·replace H := ite_f hb0 H
   refine wp_skip <| then_n <| wp_seq <| wp_seq <| wp_reg ?_
   refine st_pr F9 (PR.op (ex_move rfl) <| PR.op (ex_move rfl) <| PR.op (ex_len rfl Try.underlying22 (formL (rdL hr0 s27))) <| PR.op (ex_eq rfl rfl) <| PR.nil) fun q14 F14 => ?_
   refine st_end <| then_n ?_
   refine wp_if F14 rfl (fun hb1 => ?_) (fun hb1 => ?_)
   ·replace H := ite_t hb1 H
    refine wp_seq <| wp_reg ?_
    refine st_pr F14 (PR.op (ex_ldagg Fx.agg90 rfl (s27.blk_cells (.head _) (o := 0) (ds := [.int .i64 0, .int .u8 0, .int .i64 0, .int .i64 0]) (fun j u hu => by rw [Nat.zero_add]; exact hu)) rfl) <| PR.nil) fun q16 F15 => ?_
    have s5 := s27.f1
    refine st_storea F15 s5 rfl rfl Fx.sz90 (one_cons rfl (one_cons rfl (one_cons rfl (one_cons rfl one_nil)))) (Nat.le_of_ble_eq_true rfl) fun w2 q17 F17 s6 => ?_
    replace s6 : SL w [] w2 [Blk g9 90 [.int .i64 0, .int .u8 0, .int .i64 0, .int .i64 0], Blk g23 90 [.int .i64 0, .int .u8 0, .int .i64 0, .int .i64 0]] := s6
    refine st_pr F17 (PR.op (ex_asg rfl) <| PR.nil) fun q18 F18 => ?_
    refine st_end <| then_n ?_
    obtain rfl := some_ok H
    refine wp_ret ?_
    refine then_r ?_
    refine ret_gen (rs := [.cell 4 90, .tmp 5]) (vs := [.agg ⟨[.int .i64 0, .int .u8 0, .int .i64 0, .int .i64 0]⟩, .int .i64 2]) F18 (by rfl) ⟨_, _, rfl, RV.blk s6 (.head _) rfl Fx.agg90 rfl, _, _, rfl, RV.tmp rfl, rfl⟩ ⟨_, rfl, ⟨rfl, s6.drop.drop⟩⟩
   ·replace H := ite_f hb1 H
    refine wp_skip <| then_n <| wp_seq <| wp_reg ?_
    obtain ⟨x0, hx0, H⟩ := bind_ok H
    obtain ⟨a2, hi0, hc0⟩ := idxL Flat.u8 (rdL hr0 s27) Fx.sl22 rfl hx0
    refine st_pr F14 (PR.op (ex_move rfl) <| PR.op (ex_move rfl) <| PR.op (hi0 _ _ _ _ _ _ _ _ _ _ rfl rfl) <| PR.op (ex_ld Fx.nag5 rfl (Cells.at_ hc0 (o := 0) rfl)) <| PR.op (ex_asg rfl) <| PR.nil) fun q19 F19 => ?_
    refine st_end <| then_n <| wp_seq <| wp_reg ?_
    obtain ⟨x1, hx1, H⟩ := bind_ok H
    refine st_pr F19 (PR.op (ex_move rfl) <| PR.nil) fun q20 F20 => ?_
    refine st_call (args := [.tmp 30]) F20 Fx.fn51 rfl (provisoref04_Size_c (a0 := x0)   hx1) rfl fun v1 w3 q21 hS0 F21 => ?_
    obtain ⟨rfl, hq0⟩ := hS0
    have s7 := s27.add hq0
    refine st_pr F21 (PR.op (ex_asg rfl) <| PR.nil) fun q22 F22 => ?_
    refine st_end <| then_n <| wp_seq <| wp_seq <| wp_reg ?_
    refine st_pr F22 (PR.op (ex_move rfl) <| PR.op (ex_eq rfl rfl) <| PR.nil) fun q23 F23 => ?_
    refine st_end <| then_n ?_
    refine wp_if F23 rfl (fun hb2 => ?_) (fun hb2 => ?_)
    ·replace H := ite_t hb2 H
     refine wp_seq <| wp_reg ?_
     refine st_pr F23 (PR.op (ex_ldagg Fx.agg90 rfl (s7.blk_cells (.head _) (o := 0) (ds := [.int .i64 0, .int .u8 0, .int .i64 0, .int .i64 0]) (fun j u hu => by rw [Nat.zero_add]; exact hu)) rfl) <| PR.nil) fun q24 F24 => ?_
     have s8 := s7.f1
     refine st_storea F24 s8 rfl rfl Fx.sz90 (one_cons rfl (one_cons rfl (one_cons rfl (one_cons rfl one_nil)))) (Nat.le_of_ble_eq_true rfl) fun w4 q26 F25 s9 => ?_
     replace s9 : SL w [] w4 [Blk g9 90 [.int .i64 0, .int .u8 0, .int .i64 0, .int .i64 0], Blk g23 90 [.int .i64 0, .int .u8 0, .int .i64 0, .int .i64 0]] := s9
     refine st_pr F25 (PR.op (ex_asg rfl) <| PR.nil) fun q27 F27 => ?_
     refine st_end <| then_n ?_
     obtain rfl := some_ok H
     refine wp_ret ?_
     refine then_r ?_
     refine ret_gen (rs := [.cell 4 90, .tmp 5]) (vs := [.agg ⟨[.int .i64 0, .int .u8 0, .int .i64 0, .int .i64 0]⟩, .int .i64 40]) F27 (by rfl) ⟨_, _, rfl, RV.blk s9 (.head _) rfl Fx.agg90 rfl, _, _, rfl, RV.tmp rfl, rfl⟩ ⟨_, rfl, ⟨rfl, s9.drop.drop⟩⟩
    ·replace H := ite_f hb2 H
     refine wp_skip <| then_n <| wp_seq <| wp_seq <| wp_reg ?_
     refine st_pr F23 (PR.op (ex_move rfl) <| PR.op (ex_len rfl Try.underlying22 (formL (rdL hr0 s7))) <| PR.op (ex_move rfl) <| PR.op (ex_sub rfl rfl) <| PR.op (ex_move rfl) <| PR.op (ex_lt rfl rfl) <| PR.nil) fun q28 F28 => ?_
     refine st_end <| then_n ?_
     refine wp_if F28 rfl (fun hb3 => ?_) (fun hb3 => ?_)
     ·replace H := ite_t hb3 H
      refine wp_seq <| wp_reg ?_
      refine st_pr F28 (PR.op (ex_ldagg Fx.agg90 rfl (s7.blk_cells (.head _) (o := 0) (ds := [.int .i64 0, .int .u8 0, .int .i64 0, .int .i64 0]) (fun j u hu => by rw [Nat.zero_add]; exact hu)) rfl) <| PR.nil) fun q29 F29 => ?_
      have s10 := s7.f1
      refine st_storea F29 s10 rfl rfl Fx.sz90 (one_cons rfl (one_cons rfl (one_cons rfl (one_cons rfl one_nil)))) (Nat.le_of_ble_eq_true rfl) fun w5 q30 F30 s11 => ?_
      replace s11 : SL w [] w5 [Blk g9 90 [.int .i64 0, .int .u8 0, .int .i64 0, .int .i64 0], Blk g23 90 [.int .i64 0, .int .u8 0, .int .i64 0, .int .i64 0]] := s11
      refine st_pr F30 (PR.op (ex_asg rfl) <| PR.nil) fun q31 F31 => ?_
      refine st_end <| then_n ?_
      obtain rfl := some_ok H
      refine wp_ret ?_
      refine then_r ?_
      refine ret_gen (rs := [.cell 4 90, .tmp 5]) (vs := [.agg ⟨[.int .i64 0, .int .u8 0, .int .i64 0, .int .i64 0]⟩, .int .i64 2]) F31 (by rfl) ⟨_, _, rfl, RV.blk s11 (.head _) rfl Fx.agg90 rfl, _, _, rfl, RV.tmp rfl, rfl⟩ ⟨_, rfl, ⟨rfl, s11.drop.drop⟩⟩
     ·replace H := ite_f hb3 H
      refine wp_skip <| then_n <| wp_seq <| wp_reg ?_
      obtain ⟨x2, hx2, H⟩ := bind_ok H
      refine st_pr F28 (PR.op (ex_move rfl) <| PR.nil) fun q32 F32 => ?_
      refine st_call (args := [.tmp 43]) F32 Fx.fn69 rfl (provisoref04_wide_c (a0 := x0)   hx2) rfl fun v2 w6 q33 hS1 F33 => ?_
      obtain ⟨rfl, hq1⟩ := hS1
      have s12 := s7.add hq1
      refine st_pr F33 (PR.op (ex_move rfl) <| PR.op (ex_extract (v := .int .i64 x2.1) rfl rfl) <| PR.op (ex_extract (v := .int .i64 x2.2) rfl rfl) <| PR.op (ex_asg rfl) <| PR.op (ex_asg rfl) <| PR.nil) fun q34 F34 => ?_
      refine st_end <| then_n <| wp_seq ?_
      obtain ⟨o0, H0, R0⟩ := bind_ok H
      clear H
      refine wp_cutn (fun a w_ => ∃ g0 : Nat, Fr a 73 [(4, .pointer (some ⟨g9, 0, none⟩)), (6, .pointer (some ⟨g23, 0, none⟩)), (7, .int .u8 (x0.toNat : Int)), (11, .pointer (some ⟨g0, 0, none⟩))] ∧ SL w [] w_ [Blk g23 90 [.int .i64 0, .int .u8 0, .int .i64 0, .int .i64 0], Blk g9 90 [.int .i64 0, .int .u8 0, .int .i64 0, .int .i64 0], Blk g0 90 [.int .i64 a1, .int .u8 (x0.toNat : Int), .int .i64 o0.1, .int .i64 o0.2]]) ?_ ?_
      ·have H := H0
       obtain ⟨x3, hx3, H⟩ := bind_ok H
       obtain ⟨x4, hx4, H⟩ := bind_ok H
       obtain ⟨x5, hx5, H⟩ := bind_ok H
       obtain ⟨x6, hx6, H⟩ := bind_ok H
       refine wp_regh Fx.mixed (fun w_ => SL w [] w_ [Blk g23 90 [.int .i64 0, .int .u8 0, .int .i64 0, .int .i64 0], Blk g9 90 [.int .i64 0, .int .u8 0, .int .i64 0, .int .i64 0]]) ?_
       have s14 := s12.drew
       have s15 : SL w [] _ [Blk g23 90 [.int .i64 0, .int .u8 0, .int .i64 0, .int .i64 0], Blk g9 90 [.int .i64 0, .int .u8 0, .int .i64 0, .int .i64 0]] := s14
       refine hd_take (i := 0) rfl (by kernel_rfl) (by kernel_rfl) (by kernel_rfl) (fun _ hC => ex_move rfl) rfl rfl rfl F34 s15 fun q35 F35 => ?_
       refine hd_take (i := 1) rfl (by kernel_rfl) (by kernel_rfl) (by kernel_rfl) (fun _ hC => ex_move rfl) rfl rfl rfl F35 s15 fun q36 F36 => ?_
       refine hd_take (i := 2) rfl (by kernel_rfl) (by kernel_rfl) (by kernel_rfl) (fun _ hC => ex_move rfl) rfl rfl rfl F36 s15 fun q37 F37 => ?_
       refine hd_take (i := 3) rfl (by kernel_rfl) (by kernel_rfl) (by kernel_rfl) (fun _ hC => ex_move rfl) rfl rfl rfl F37 s15 fun q38 F38 => ?_
       refine hd_take (i := 4) rfl (by kernel_rfl) (by kernel_rfl) (by kernel_rfl) (fun _ hC => ex_add rfl rfl) rfl rfl rfl F38 s15 fun q39 F39 => ?_
       obtain ⟨v3, hs0, hv0⟩ := Rd.cut hr0 Fx.sl22 rfl hx3 (some (wr (a1 + 1))) none (.inl rfl) (.inr ⟨rfl, rfl⟩)
       refine hd_take (i := 5) rfl (by kernel_rfl) (by kernel_rfl) (by kernel_rfl) (fun _ hC => hs0 _ _ _ _ _ .i64 .i64 _ _ _ _ _ rfl rfl trivial) rfl rfl rfl F39 s15 fun q40 F40 => ?_
       refine hd_take (i := 6) rfl (by kernel_rfl) (by kernel_rfl) (by kernel_rfl) (fun _ hC => ex_move rfl) rfl rfl rfl F40 s15 fun q41 F41 => ?_
       refine hd_take (i := 8) rfl (by kernel_rfl) (by kernel_rfl) (by kernel_rfl) (fun _ hC => ex_move rfl) rfl rfl rfl F41 s15 fun q42 F42 => ?_
       refine hd_take (i := 9) rfl (by kernel_rfl) (by kernel_rfl) (by kernel_rfl) (fun _ hC => ex_move rfl) rfl rfl rfl F42 s15 fun q43 F43 => ?_
       refine hd_take (i := 10) rfl (by kernel_rfl) (by kernel_rfl) (by kernel_rfl) (fun _ hC => ex_add rfl rfl) rfl rfl rfl F43 s15 fun q44 F44 => ?_
       refine hd_take (i := 11) rfl (by kernel_rfl) (by kernel_rfl) (by kernel_rfl) (fun _ hC => ex_move rfl) rfl rfl rfl F44 s15 fun q45 F45 => ?_
       refine hd_take (i := 12) rfl (by kernel_rfl) (by kernel_rfl) (by kernel_rfl) (fun _ hC => ex_add rfl rfl) rfl rfl rfl F45 s15 fun q46 F46 => ?_
       obtain ⟨v4, hs1, hv1⟩ := Rd.cut hr0 Fx.sl22 rfl hx5 (some (wr ((wr (a1 + 1)) + x2.1))) none (.inl rfl) (.inr ⟨rfl, rfl⟩)
       refine hd_take (i := 13) rfl (by kernel_rfl) (by kernel_rfl) (by kernel_rfl) (fun _ hC => hs1 _ _ _ _ _ .i64 .i64 _ _ _ _ _ rfl rfl trivial) rfl rfl rfl F46 s15 fun q47 F47 => ?_
       refine hd_take (i := 14) rfl (by kernel_rfl) (by kernel_rfl) (by kernel_rfl) (fun _ hC => ex_move rfl) rfl rfl rfl F47 s15 fun q48 F48 => ?_
       refine hd_many (rs := [7, 17]) (by kernel_rfl) (by decide) (hd_cons (wpOp_of rfl ?_) (hd_cons (wpOp_of rfl ?_) (hd_nil)))
       ·refine st_call (args := [.tmp 52, .tmp 53]) F48 Fx.fn70 rfl (provisoref04_take_c (a0 := x3) (a1 := x2.1)  (hv0.pass0 s14) hx4) rfl fun v5 w7 q49 hS2 F49 => ?_
        obtain ⟨rfl, hq2⟩ := hS2
        have s16 := s14.add hq2
        have s17 : SL w [] _ [Blk g23 90 [.int .i64 0, .int .u8 0, .int .i64 0, .int .i64 0], Blk g9 90 [.int .i64 0, .int .u8 0, .int .i64 0, .int .i64 0]] := s16
        refine kq_end ⟨s17, ?_⟩
        refine hd_many (rs := [15, 17]) (by kernel_rfl) (by decide) (hd_cons (wpOp_of rfl ?_) (hd_cons (wpOp_of rfl ?_) (hd_nil)))
        ·refine st_call (args := [.tmp 60, .tmp 61]) F49 Fx.fn70 rfl (provisoref04_take_c (a0 := x5) (a1 := x2.2)  (hv1.pass0 s16) hx6) rfl fun v6 w8 q50 hS3 F50 => ?_
         obtain ⟨rfl, hq3⟩ := hS3
         have s18 := s16.add hq3
         have s19 : SL w [] _ [Blk g23 90 [.int .i64 0, .int .u8 0, .int .i64 0, .int .i64 0], Blk g9 90 [.int .i64 0, .int .u8 0, .int .i64 0, .int .i64 0]] := s18
         refine kq_end ⟨s19, ?_⟩
         refine hd_many (rs := [16, 17]) (by kernel_rfl) (by decide) (hd_cons (wpOp_of rfl ?_) (hd_cons (wpOp_of rfl ?_) (hd_nil)))
         ·refine st_op F50 (ex_build (vs := [.int .i64 a1, .int .u8 (x0.toNat : Int), .int .i64 x4, .int .i64 x6]) Fx.zero90 Fx.pl90 rfl (cs := [.int .i64 a1, .int .u8 (x0.toNat : Int), .int .i64 x4, .int .i64 x6]) (rfl)) rfl rfl rfl fun q51 F51 => ?_
          have s20 : SL w [] _ [Blk g23 90 [.int .i64 0, .int .u8 0, .int .i64 0, .int .i64 0], Blk g9 90 [.int .i64 0, .int .u8 0, .int .i64 0, .int .i64 0]] := s18
          refine kq_end ⟨s20, ?_⟩
          refine hd_one (i := 17) rfl (by kernel_rfl) ?_
          refine st_alloc F51 s18 Fx.zero90 rfl rfl fun g1 w9 q52 F52 s21 => ?_
          have s22 : SL w [] _ [Blk g23 90 [.int .i64 0, .int .u8 0, .int .i64 0, .int .i64 0], Blk g9 90 [.int .i64 0, .int .u8 0, .int .i64 0, .int .i64 0]] := s21.drop
          refine kq_end ⟨s22, ?_⟩
          refine hd_one (i := 18) rfl (by kernel_rfl) ?_
          have s23 := s21
          refine st_storea F52 s23 rfl rfl Fx.sz90 (one_cons rfl (one_cons rfl (one_cons rfl (one_cons rfl one_nil)))) (Nat.le_of_ble_eq_true rfl) fun w11 q53 F53 s24 => ?_
          replace s24 : SL w [] w11 [Blk g1 90 [.int .i64 a1, .int .u8 (x0.toNat : Int), .int .i64 x4, .int .i64 x6], Blk g23 90 [.int .i64 0, .int .u8 0, .int .i64 0, .int .i64 0], Blk g9 90 [.int .i64 0, .int .u8 0, .int .i64 0, .int .i64 0]] := s24
          have s25 : SL w [] _ [Blk g23 90 [.int .i64 0, .int .u8 0, .int .i64 0, .int .i64 0], Blk g9 90 [.int .i64 0, .int .u8 0, .int .i64 0, .int .i64 0]] := s24.drop
          refine kq_end ⟨s25, ?_⟩
          refine hd_done (by kernel_rfl) ?_
          obtain rfl := some_ok H
          refine then_n ?_
          exact ⟨g1, F53.sub ⟨rfl, rfl, rfl, rfl, trivial⟩, s24.f2.f2⟩
         ·refine st_alloc F50 s18 Fx.zero90 rfl rfl fun g2 w12 q54 F54 s26 => ?_
          have s28 : SL w [] _ [Blk g23 90 [.int .i64 0, .int .u8 0, .int .i64 0, .int .i64 0], Blk g9 90 [.int .i64 0, .int .u8 0, .int .i64 0, .int .i64 0]] := s26.drop
          refine kq_end ⟨s28, ?_⟩
          refine hd_one (i := 16) rfl (by kernel_rfl) ?_
          refine st_op F54 (ex_build (vs := [.int .i64 a1, .int .u8 (x0.toNat : Int), .int .i64 x4, .int .i64 x6]) Fx.zero90 Fx.pl90 rfl (cs := [.int .i64 a1, .int .u8 (x0.toNat : Int), .int .i64 x4, .int .i64 x6]) (rfl)) rfl rfl rfl fun q55 F55 => ?_
          have s29 : SL w [] _ [Blk g23 90 [.int .i64 0, .int .u8 0, .int .i64 0, .int .i64 0], Blk g9 90 [.int .i64 0, .int .u8 0, .int .i64 0, .int .i64 0]] := s26.drop
          refine kq_end ⟨s29, ?_⟩
          refine hd_one (i := 18) rfl (by kernel_rfl) ?_
          have s30 := s26
          refine st_storea F55 s30 rfl rfl Fx.sz90 (one_cons rfl (one_cons rfl (one_cons rfl (one_cons rfl one_nil)))) (Nat.le_of_ble_eq_true rfl) fun w13 q56 F56 s31 => ?_
          replace s31 : SL w [] w13 [Blk g2 90 [.int .i64 a1, .int .u8 (x0.toNat : Int), .int .i64 x4, .int .i64 x6], Blk g23 90 [.int .i64 0, .int .u8 0, .int .i64 0, .int .i64 0], Blk g9 90 [.int .i64 0, .int .u8 0, .int .i64 0, .int .i64 0]] := s31
          have s32 : SL w [] _ [Blk g23 90 [.int .i64 0, .int .u8 0, .int .i64 0, .int .i64 0], Blk g9 90 [.int .i64 0, .int .u8 0, .int .i64 0, .int .i64 0]] := s31.drop
          refine kq_end ⟨s32, ?_⟩
          refine hd_done (by kernel_rfl) ?_
          obtain rfl := some_ok H
          refine then_n ?_
          exact ⟨g2, F56.sub ⟨rfl, rfl, rfl, rfl, trivial⟩, s31.f2.f2⟩
        ·refine st_alloc F49 s16 Fx.zero90 rfl rfl fun g3 w14 q57 F57 s33 => ?_
         have s34 : SL w [] _ [Blk g23 90 [.int .i64 0, .int .u8 0, .int .i64 0, .int .i64 0], Blk g9 90 [.int .i64 0, .int .u8 0, .int .i64 0, .int .i64 0]] := s33.drop
         refine kq_end ⟨s34, ?_⟩
         refine hd_one (i := 15) rfl (by kernel_rfl) ?_
         refine st_call (args := [.tmp 60, .tmp 61]) F57 Fx.fn70 rfl (provisoref04_take_c (a0 := x5) (a1 := x2.2)  (hv1.pass0 s33) hx6) rfl fun v7 w15 q58 hS4 F58 => ?_
         obtain ⟨rfl, hq4⟩ := hS4
         have s35 := s33.add hq4
         have s36 : SL w [] _ [Blk g23 90 [.int .i64 0, .int .u8 0, .int .i64 0, .int .i64 0], Blk g9 90 [.int .i64 0, .int .u8 0, .int .i64 0, .int .i64 0]] := s35.drop
         refine kq_end ⟨s36, ?_⟩
         refine hd_one (i := 16) rfl (by kernel_rfl) ?_
         refine st_op F58 (ex_build (vs := [.int .i64 a1, .int .u8 (x0.toNat : Int), .int .i64 x4, .int .i64 x6]) Fx.zero90 Fx.pl90 rfl (cs := [.int .i64 a1, .int .u8 (x0.toNat : Int), .int .i64 x4, .int .i64 x6]) (rfl)) rfl rfl rfl fun q59 F59 => ?_
         have s37 : SL w [] _ [Blk g23 90 [.int .i64 0, .int .u8 0, .int .i64 0, .int .i64 0], Blk g9 90 [.int .i64 0, .int .u8 0, .int .i64 0, .int .i64 0]] := s35.drop
         refine kq_end ⟨s37, ?_⟩
         refine hd_one (i := 18) rfl (by kernel_rfl) ?_
         have s38 := s35
         refine st_storea F59 s38 rfl rfl Fx.sz90 (one_cons rfl (one_cons rfl (one_cons rfl (one_cons rfl one_nil)))) (Nat.le_of_ble_eq_true rfl) fun w16 q60 F60 s39 => ?_
         replace s39 : SL w [] w16 [Blk g3 90 [.int .i64 a1, .int .u8 (x0.toNat : Int), .int .i64 x4, .int .i64 x6], Blk g23 90 [.int .i64 0, .int .u8 0, .int .i64 0, .int .i64 0], Blk g9 90 [.int .i64 0, .int .u8 0, .int .i64 0, .int .i64 0]] := s39
         have s40 : SL w [] _ [Blk g23 90 [.int .i64 0, .int .u8 0, .int .i64 0, .int .i64 0], Blk g9 90 [.int .i64 0, .int .u8 0, .int .i64 0, .int .i64 0]] := s39.drop
         refine kq_end ⟨s40, ?_⟩
         refine hd_done (by kernel_rfl) ?_
         obtain rfl := some_ok H
         refine then_n ?_
         exact ⟨g3, F60.sub ⟨rfl, rfl, rfl, rfl, trivial⟩, s39.f2.f2⟩
       ·refine st_alloc F48 s14 Fx.zero90 rfl rfl fun g4 w17 q61 F61 s41 => ?_
        have s42 : SL w [] _ [Blk g23 90 [.int .i64 0, .int .u8 0, .int .i64 0, .int .i64 0], Blk g9 90 [.int .i64 0, .int .u8 0, .int .i64 0, .int .i64 0]] := s41.drop
        refine kq_end ⟨s42, ?_⟩
        refine hd_one (i := 7) rfl (by kernel_rfl) ?_
        refine st_call (args := [.tmp 52, .tmp 53]) F61 Fx.fn70 rfl (provisoref04_take_c (a0 := x3) (a1 := x2.1)  (hv0.pass0 s41) hx4) rfl fun v8 w18 q62 hS5 F62 => ?_
        obtain ⟨rfl, hq5⟩ := hS5
        have s43 := s41.add hq5
        have s44 : SL w [] _ [Blk g23 90 [.int .i64 0, .int .u8 0, .int .i64 0, .int .i64 0], Blk g9 90 [.int .i64 0, .int .u8 0, .int .i64 0, .int .i64 0]] := s43.drop
        refine kq_end ⟨s44, ?_⟩
        refine hd_one (i := 15) rfl (by kernel_rfl) ?_
        refine st_call (args := [.tmp 60, .tmp 61]) F62 Fx.fn70 rfl (provisoref04_take_c (a0 := x5) (a1 := x2.2)  (hv1.pass0 s43) hx6) rfl fun v9 w19 q63 hS6 F63 => ?_
        obtain ⟨rfl, hq6⟩ := hS6
        have s45 := s43.add hq6
        have s46 : SL w [] _ [Blk g23 90 [.int .i64 0, .int .u8 0, .int .i64 0, .int .i64 0], Blk g9 90 [.int .i64 0, .int .u8 0, .int .i64 0, .int .i64 0]] := s45.drop
        refine kq_end ⟨s46, ?_⟩
        refine hd_one (i := 16) rfl (by kernel_rfl) ?_
        refine st_op F63 (ex_build (vs := [.int .i64 a1, .int .u8 (x0.toNat : Int), .int .i64 x4, .int .i64 x6]) Fx.zero90 Fx.pl90 rfl (cs := [.int .i64 a1, .int .u8 (x0.toNat : Int), .int .i64 x4, .int .i64 x6]) (rfl)) rfl rfl rfl fun q64 F64 => ?_
        have s47 : SL w [] _ [Blk g23 90 [.int .i64 0, .int .u8 0, .int .i64 0, .int .i64 0], Blk g9 90 [.int .i64 0, .int .u8 0, .int .i64 0, .int .i64 0]] := s45.drop
        refine kq_end ⟨s47, ?_⟩
        refine hd_one (i := 18) rfl (by kernel_rfl) ?_
        have s48 := s45
        refine st_storea F64 s48 rfl rfl Fx.sz90 (one_cons rfl (one_cons rfl (one_cons rfl (one_cons rfl one_nil)))) (Nat.le_of_ble_eq_true rfl) fun w20 q65 F65 s49 => ?_
        replace s49 : SL w [] w20 [Blk g4 90 [.int .i64 a1, .int .u8 (x0.toNat : Int), .int .i64 x4, .int .i64 x6], Blk g23 90 [.int .i64 0, .int .u8 0, .int .i64 0, .int .i64 0], Blk g9 90 [.int .i64 0, .int .u8 0, .int .i64 0, .int .i64 0]] := s49
        have s50 : SL w [] _ [Blk g23 90 [.int .i64 0, .int .u8 0, .int .i64 0, .int .i64 0], Blk g9 90 [.int .i64 0, .int .u8 0, .int .i64 0, .int .i64 0]] := s49.drop
        refine kq_end ⟨s50, ?_⟩
        refine hd_done (by kernel_rfl) ?_
        obtain rfl := some_ok H
        refine then_n ?_
        exact ⟨g4, F65.sub ⟨rfl, rfl, rfl, rfl, trivial⟩, s49.f2.f2⟩
      ·intro q66 w21 hJ
       obtain ⟨g0, F66, s51⟩ := hJ
       have H := R0
       clear R0 H0
       refine then_n <| wp_seq <| wp_seq <| wp_reg ?_
       refine st_pr F66 (PR.op (ex_move rfl) <| PR.op (ex_eq rfl rfl) <| PR.op (ex_move rfl) <| PR.nil) fun q67 F67 => ?_
       refine bool_split ((x0.toNat : Int) == 2) (fun hb4 => ?_) (fun hb4 => ?_)
       ·replace H := ite_t hb4 H
        refine st_gop F67 rfl rfl (look_b rfl hb4) (ex_fab Fx.fa90_2 rfl rfl) rfl rfl fun q68 F68 => ?_
        refine st_gop F68 rfl rfl (look_b rfl hb4) (ex_ld Fx.nag3 rfl (s51.blk_cell (.tail _ <| .tail _ <| .head _) rfl)) rfl rfl fun q69 F69 => ?_
        refine st_gop F69 rfl rfl (look_b rfl hb4) (ex_gt rfl rfl) rfl rfl fun q70 F70 => ?_
        refine st_pr F70 (PR.op (ex_pick_t (ev_b rfl hb4) rfl) <| PR.nil) fun q71 F71 => ?_
        refine st_end <| then_n ?_
        refine wp_if F71 rfl (fun hb5 => ?_) (fun hb5 => ?_)
        ·replace H := ite_t hb5 H
         refine wp_seq <| wp_reg ?_
         refine st_pr F71 (PR.op (ex_ldagg Fx.agg90 rfl (s51.blk_cells (.head _) (o := 0) (ds := [.int .i64 0, .int .u8 0, .int .i64 0, .int .i64 0]) (fun j u hu => by rw [Nat.zero_add]; exact hu)) rfl) <| PR.nil) fun q72 F72 => ?_
         have s52 := s51.f1
         refine st_storea F72 s52 rfl rfl Fx.sz90 (one_cons rfl (one_cons rfl (one_cons rfl (one_cons rfl one_nil)))) (Nat.le_of_ble_eq_true rfl) fun w22 q73 F73 s53 => ?_
         replace s53 : SL w [] w22 [Blk g9 90 [.int .i64 0, .int .u8 0, .int .i64 0, .int .i64 0], Blk g23 90 [.int .i64 0, .int .u8 0, .int .i64 0, .int .i64 0], Blk g0 90 [.int .i64 a1, .int .u8 (x0.toNat : Int), .int .i64 o0.1, .int .i64 o0.2]] := s53
         refine st_pr F73 (PR.op (ex_asg rfl) <| PR.nil) fun q74 F74 => ?_
         refine st_end <| then_n ?_
         obtain rfl := some_ok H
         refine wp_ret ?_
         refine then_r ?_
         refine ret_gen (rs := [.cell 4 90, .tmp 5]) (vs := [.agg ⟨[.int .i64 0, .int .u8 0, .int .i64 0, .int .i64 0]⟩, .int .i64 5]) F74 (by rfl) ⟨_, _, rfl, RV.blk s53 (.head _) rfl Fx.agg90 rfl, _, _, rfl, RV.tmp rfl, rfl⟩ ⟨_, rfl, ⟨rfl, s53.drop.drop.drop⟩⟩
        ·replace H := ite_f hb5 H
         refine wp_skip <| then_n <| wp_seq <| wp_reg ?_
         refine st_pr F71 (PR.op (ex_ldagg Fx.agg90 rfl (s51.blk_cells (.tail _ <| .tail _ <| .head _) (o := 0) (ds := [.int .i64 a1, .int .u8 (x0.toNat : Int), .int .i64 o0.1, .int .i64 o0.2]) (fun j u hu => by rw [Nat.zero_add]; exact hu)) rfl) <| PR.nil) fun q75 F75 => ?_
         have s54 := s51.f1
         refine st_storea F75 s54 rfl rfl Fx.sz90 (one_cons rfl (one_cons rfl (one_cons rfl (one_cons rfl one_nil)))) (Nat.le_of_ble_eq_true rfl) fun w23 q76 F76 s55 => ?_
         replace s55 : SL w [] w23 [Blk g9 90 [.int .i64 a1, .int .u8 (x0.toNat : Int), .int .i64 o0.1, .int .i64 o0.2], Blk g23 90 [.int .i64 0, .int .u8 0, .int .i64 0, .int .i64 0], Blk g0 90 [.int .i64 a1, .int .u8 (x0.toNat : Int), .int .i64 o0.1, .int .i64 o0.2]] := s55
         refine st_pr F76 (PR.op (ex_asg rfl) <| PR.nil) fun q77 F77 => ?_
         refine st_end <| then_n ?_
         obtain rfl := some_ok H
         refine wp_ret ?_
         refine ret_gen (rs := [.cell 4 90, .tmp 5]) (vs := [.agg ⟨[.int .i64 a1, .int .u8 (x0.toNat : Int), .int .i64 o0.1, .int .i64 o0.2]⟩, .int .i64 0]) F77 (by rfl) ⟨_, _, rfl, RV.blk s55 (.head _) rfl Fx.agg90 rfl, _, _, rfl, RV.tmp rfl, rfl⟩ ⟨_, rfl, ⟨rfl, s55.drop.drop.drop⟩⟩
       ·replace H := ite_f hb4 H
        refine st_gskip F67 rfl rfl (look_b rfl hb4) Bool.noConfusion rfl rfl fun q78 F78 => ?_
        refine st_gskip F78 rfl rfl (look_b rfl hb4) Bool.noConfusion rfl rfl fun q79 F79 => ?_
        refine st_gskip F79 rfl rfl (look_b rfl hb4) Bool.noConfusion rfl rfl fun q80 F80 => ?_
        refine st_pr F80 (PR.op (ex_pick_f (ev_b rfl hb4) rfl) <| PR.nil) fun q81 F81 => ?_
        refine st_end <| then_n ?_
        refine wp_if_f F81 rfl ?_
        refine wp_skip <| then_n <| wp_seq <| wp_reg ?_
        refine st_pr F81 (PR.op (ex_ldagg Fx.agg90 rfl (s51.blk_cells (.tail _ <| .tail _ <| .head _) (o := 0) (ds := [.int .i64 a1, .int .u8 (x0.toNat : Int), .int .i64 o0.1, .int .i64 o0.2]) (fun j u hu => by rw [Nat.zero_add]; exact hu)) rfl) <| PR.nil) fun q82 F82 => ?_
        have s56 := s51.f1
        refine st_storea F82 s56 rfl rfl Fx.sz90 (one_cons rfl (one_cons rfl (one_cons rfl (one_cons rfl one_nil)))) (Nat.le_of_ble_eq_true rfl) fun w25 q83 F83 s57 => ?_
        replace s57 : SL w [] w25 [Blk g9 90 [.int .i64 a1, .int .u8 (x0.toNat : Int), .int .i64 o0.1, .int .i64 o0.2], Blk g23 90 [.int .i64 0, .int .u8 0, .int .i64 0, .int .i64 0], Blk g0 90 [.int .i64 a1, .int .u8 (x0.toNat : Int), .int .i64 o0.1, .int .i64 o0.2]] := s57
        refine st_pr F83 (PR.op (ex_asg rfl) <| PR.nil) fun q84 F84 => ?_
        refine st_end <| then_n ?_
        obtain rfl := some_ok H
        refine wp_ret ?_
        refine ret_gen (rs := [.cell 4 90, .tmp 5]) (vs := [.agg ⟨[.int .i64 a1, .int .u8 (x0.toNat : Int), .int .i64 o0.1, .int .i64 o0.2]⟩, .int .i64 0]) F84 (by rfl) ⟨_, _, rfl, RV.blk s57 (.head _) rfl Fx.agg90 rfl, _, _, rfl, RV.tmp rfl, rfl⟩ ⟨_, rfl, ⟨rfl, s57.drop.drop.drop⟩⟩
-- The walk of proviso/provisoref05.Scan.
theorem provisoref05_Scan_c {w : World} {v0 : Value} {a0 : List UInt8} {r : (List S_api_Instr) × Int × Int} (hr0 : Rd Ty.u8 w [] v0 a0) (H : provisoref05_Scan a0 = some r) :
  Calls Try.prog 26 #[v0] w (Ret fun u_ w_ => ∃ u0 : Value, u_ = .tuple ⟨[u0, .int .i64 r.2.1, .int .i64 r.2.2]⟩ ∧ SL w [] w_ [Sl T_api_Instr u0 r.1]) := by
 have s0 : SL w [] w [] := SL.init0 w
 refine call_enter Try.func26 rfl Try.ntmps26 (Nat.le_of_ble_eq_true rfl) (args := [v0]) fun q0 F0 => ?_
 unfold provisoref05_Scan at H
 refine wp_seq <| wp_reg ?_
 refine st_pr F0 (PR.op (ex_asg rfl) <| PR.op (ex_asg rfl) <| PR.op (ex_asg rfl) <| PR.nil) fun q3 F4 => ?_
 refine st_end <| then_n <| wp_seq <| wp_seq <| wp_reg ?_
 refine st_pr F4 (PR.op (ex_move rfl) <| PR.op (ex_len rfl Try.underlying22 (formL (rdL hr0 s0))) <| PR.op (ex_gt rfl rfl) <| PR.nil) fun q16 F17 => ?_
 refine st_end <| then_n ?_
 refine wp_if F17 rfl (fun hb18 => ?_) (fun hb18 => ?_)
 ·replace H := ite_t hb18 H
  refine wp_seq <| wp_reg ?_
  refine st_pr F17 (PR.op (ex_asg rfl) <| PR.op (ex_asg rfl) <| PR.op (ex_asg rfl) <| PR.nil) fun q21 F22 => ?_
  refine st_end <| then_n ?_
  obtain rfl := some_ok H
  refine wp_ret ?_
  refine then_r ?_
  refine ret_gen (rs := [.tmp 2, .tmp 3, .tmp 4]) (vs := [.slice none 0 0, .int .i64 0, .int .i64 4]) F22 (by rfl) ⟨_, _, rfl, RV.tmp rfl, _, _, rfl, RV.tmp rfl, _, _, rfl, RV.tmp rfl, rfl⟩ ⟨_, rfl, ⟨(.slice none 0 0), rfl, (SL.nilSl (T := T_api_Instr) s0)⟩⟩
 ·replace H := ite_f hb18 H
  refine wp_skip <| then_n <| wp_seq <| wp_reg ?_
  refine st_pr F17 (PR.op (ex_asg rfl) <| PR.nil) fun q25 F26 => ?_
  refine st_end <| then_n <| wp_seq <| wp_seq <| wp_reg ?_
  refine st_pr F26 (PR.op (ex_asg rfl) <| PR.nil) fun q1 F1 => ?_
  refine st_end <| then_n ?_
  obtain ⟨o0, H0, R0⟩ := bind_ok H
  clear H
  refine wp_cutn (fun a w_ => ∃ p0 : (List S_api_Instr), o0 = .inr (p0) ∧ ∃ v1 : Value, Fr a 36 [(5, v1)] ∧ SL w [] w_ [Sl T_api_Instr v1 p0]) ?_ ?_
  ·have H := H0
   refine wp_block ?_
   refine wp_lp (provisoref05_Scan_b0 a0) (fun s1 a w_ => ∃ v2 : Value, Fr a 36 [(0, v0), (5, v2), (6, .int .i64 s1.2)] ∧ SL w [] w_ [Sl T_api_Instr v2 s1.1]) H ?_ ?_
   ·exact ⟨(.slice none 0 0), F1.sub ⟨rfl, rfl, rfl, trivial⟩, (SL.nilSl (T := T_api_Instr) s0)⟩
   ·intro s1 q2 w0 hI0 o1 H hr
    obtain ⟨v2, F2, s2⟩ := hI0
    replace H : provisoref05_Scan_b0 a0 s1 = some o1 := H
    unfold provisoref05_Scan_b0 at H
    refine wp_seq <| wp_seq <| wp_reg ?_
    refine st_pr F2 (PR.op (ex_move rfl) <| PR.op (ex_move rfl) <| PR.op (ex_len rfl Try.underlying22 (formL (rdL hr0 s2))) <| PR.op (ex_lt rfl rfl) <| PR.nil) fun q4 F3 => ?_
    refine st_end <| then_n ?_
    refine wp_if F3 rfl (fun hb0 => ?_) (fun hb0 => ?_)
    ·replace H := ite_t hb0 H
     refine wp_skip <| then_n <| wp_block <| wp_seq <| wp_reg ?_
     obtain ⟨x0, hx0, H⟩ := bind_ok H
     refine st_pr F3 (PR.op (ex_move rfl) <| PR.op (ex_move rfl) <| PR.nil) fun q5 F5 => ?_
     refine st_call (args := [.tmp 17, .tmp 18]) F5 Fx.fn50 rfl (provisoref04_Decode_c (a0 := a0) (a1 := s1.2)  (hr0.pass0 s2) hx0) rfl fun v3 w1 q6 hS0 F6 => ?_
     obtain ⟨rfl, hq0⟩ := hS0
     have s3 := s2.add hq0
     refine st_pr F6 (PR.op (ex_move rfl) <| PR.op (ex_extract (v := .agg ⟨[.int .i64 x0.1.At, .int .u8 (x0.1.Op.toNat : Int), .int .i64 x0.1.A, .int .i64 x0.1.B]⟩) rfl rfl) <| PR.op (ex_extract (v := .int .i64 x0.2) rfl rfl) <| PR.nil) fun q7 F7 => ?_
     refine st_alloc F7 s3 Fx.zero90 rfl rfl fun g0 w2 q8 F8 s4 => ?_
     have s5 := s4
     refine st_storea F8 s5 rfl rfl Fx.sz90 (one_cons rfl (one_cons rfl (one_cons rfl (one_cons rfl one_nil)))) (Nat.le_of_ble_eq_true rfl) fun w3 q9 F9 s6 => ?_
     replace s6 : SL w [] w3 [Blk g0 90 [.int .i64 x0.1.At, .int .u8 (x0.1.Op.toNat : Int), .int .i64 x0.1.A, .int .i64 x0.1.B], Sl T_api_Instr v2 s1.1] := s6
     refine st_pr F9 (PR.op (ex_asg rfl) <| PR.nil) fun q10 F10 => ?_
     refine st_end <| then_n <| wp_seq <| wp_seq <| wp_reg ?_
     refine st_pr F10 (PR.op (ex_move rfl) <| PR.op (ex_ne rfl rfl) <| PR.nil) fun q11 F11 => ?_
     refine st_end <| then_n ?_
     refine wp_if F11 rfl (fun hb1 => ?_) (fun hb1 => ?_)
     ·replace H := ite_t hb1 H
      refine wp_seq <| wp_reg ?_
      refine st_pr F11 (PR.op (ex_move rfl) <| PR.op (ex_move rfl) <| PR.op (ex_asg rfl) <| PR.op (ex_asg rfl) <| PR.op (ex_asg rfl) <| PR.nil) fun q12 F12 => ?_
      refine st_end <| then_n ?_
      obtain rfl := some_ok H
      obtain rfl := hr _ rfl
      replace H := R0
      dsimp only at H
      obtain rfl := some_ok H
      refine wp_ret ?_
      refine then_r <| blk_r <| then_r <| blk_r <| then_r <| then_r ?_
      refine ret_gen (rs := [.tmp 2, .tmp 3, .tmp 4]) (vs := [.slice none 0 0, .int .i64 s1.2, .int .i64 x0.2]) F12 (by rfl) ⟨_, _, rfl, RV.tmp rfl, _, _, rfl, RV.tmp rfl, _, _, rfl, RV.tmp rfl, rfl⟩ ⟨_, rfl, ⟨(.slice none 0 0), rfl, (SL.nilSl (T := T_api_Instr) s6).f1.drop.f1.drop⟩⟩
     ·replace H := ite_f hb1 H
      refine wp_skip <| then_n <| wp_seq <| wp_reg ?_
      refine st_pr F11 (PR.op (ex_move rfl) <| PR.op (ex_ldagg Fx.agg90 rfl (s6.blk_cells (.head _) (o := 0) (ds := [.int .i64 x0.1.At, .int .u8 (x0.1.Op.toNat : Int), .int .i64 x0.1.A, .int .i64 x0.1.B]) (fun j u hu => by rw [Nat.zero_add]; exact hu)) rfl) <| PR.nil) fun q13 F13 => ?_
      refine st_bslice (parts := [(0, .tmp 27)]) F_api_Instr ([(⟨x0.1.At, x0.1.Op, x0.1.A, x0.1.B⟩ : S_api_Instr)] : List S_api_Instr) F13 s6 Fx.sl67 rfl (by decide) rfl rfl rfl (by simp [Value.cells]) rfl rfl rfl fun v4 w4 q14 F14 s7 => ?_
      obtain ⟨x1, hx1, H⟩ := bind_ok H
      have s8 := s7.f2
      obtain ⟨_, hr_⟩ := (s8.own_rd (.tail _ <| .head _))
      refine st_append_rd F_api_Instr F14 s8 Fx.sl67 rfl rfl rfl rfl hr_ rfl rfl hx1 rfl fun v5 w5 q15 F15 s9 => ?_
      have s3245' := s9.f1.drop
      refine st_pr F15 (PR.op (ex_asg rfl) <| PR.nil) fun q17 F16 => ?_
      refine st_end <| then_n <| wp_reg ?_
      obtain ⟨x2, hx2, H⟩ := bind_ok H
      refine st_pr F16 (PR.op (ex_move rfl) <| PR.op (ex_fab Fx.fa90_1 rfl rfl) <| PR.op (ex_ld Fx.nag5 rfl (s3245'.blk_cell (.tail _ <| .head _) rfl)) <| PR.nil) fun q18 F18 => ?_
      refine st_call (args := [.tmp 32]) F18 Fx.fn51 rfl (provisoref04_Size_c (a0 := x0.1.Op)   hx2) rfl fun v6 w6 q19 hS1 F19 => ?_
      obtain ⟨rfl, hq1⟩ := hS1
      have s10 := s3245'.add hq1
      refine st_pr F19 (PR.op (ex_add rfl rfl) <| PR.op (ex_asg rfl) <| PR.nil) fun q20 F20 => ?_
      refine st_end ?_
      refine blk_n ?_
      obtain rfl := some_ok H
      refine then_n ?_
      exact ⟨_, rfl, v5, F20.sub ⟨rfl, rfl, rfl, trivial⟩, s10.f1.drop⟩
    ·replace H := ite_f hb0 H
     refine wp_exit <| then_x <| then_x <| blk_hit ?_
     obtain rfl := some_ok H
     obtain rfl := hr _ rfl
     refine then_n ?_
     exact ⟨_, rfl, v2, F3.sub ⟨rfl, trivial⟩, s2⟩
  ·intro q22 w7 hJ
   obtain ⟨p0, rfl, v1, F21, s11⟩ := hJ
   have H := R0
   clear R0 H0
   dsimp only at H
   refine then_n <| wp_seq <| wp_reg ?_
   refine st_pr F21 (PR.op (ex_move rfl) <| PR.op (ex_asg rfl) <| PR.op (ex_asg rfl) <| PR.op (ex_asg rfl) <| PR.nil) fun q23 F23 => ?_
   refine st_end <| then_n ?_
   obtain rfl := some_ok H
   refine wp_ret ?_
   refine ret_gen (rs := [.tmp 2, .tmp 3, .tmp 4]) (vs := [v1, .int .i64 0, .int .i64 0]) F23 (by rfl) ⟨_, _, rfl, RV.tmp rfl, _, _, rfl, RV.tmp rfl, _, _, rfl, RV.tmp rfl, rfl⟩ ⟨_, rfl, ⟨v1, rfl, s11⟩⟩
-- The walk of proviso/provisoref04.Jumps.
theorem provisoref04_Jumps_c {w : World} {a0 : UInt8} {r : Bool}  (H : provisoref04_Jumps a0 = some r) :
  Calls Try.prog 47 #[.int .u8 (a0.toNat : Int)] w (Ret fun u_ w_ => u_ = .bool r ∧ SL w [] w_ []) := by
 have s0 : SL w [] w [] := SL.init0 w
 refine call_enter Try.func47 rfl Try.ntmps47 (Nat.le_of_ble_eq_true rfl) (args := [.int .u8 (a0.toNat : Int)]) fun q0 F0 => ?_
 unfold provisoref04_Jumps at H
 refine wp_seq <| wp_reg ?_
 refine st_pr F0 (PR.op (ex_asg rfl) <| PR.nil) fun q3 F4 => ?_
 refine st_end <| then_n <| wp_seq <| wp_reg ?_
 refine st_pr F4 (PR.op (ex_move rfl) <| PR.op (ex_eq rfl rfl) <| PR.op (ex_move rfl) <| PR.nil) fun q20 F21 => ?_
 refine bool_split ((a0.toNat : Int) == 19) (fun hb22 => ?_) (fun hb22 => ?_)
 ·replace H := ite_t hb22 H
  refine st_gskip F21 rfl rfl (look_b rfl hb22) Bool.noConfusion rfl rfl fun q23 F24 => ?_
  refine st_gskip F24 rfl rfl (look_b rfl hb22) Bool.noConfusion rfl rfl fun q25 F26 => ?_
  refine st_pr F26 (PR.op (ex_pick_t (ev_b rfl hb22) rfl) <| PR.op (ex_asg rfl) <| PR.nil) fun q27 F28 => ?_
  refine st_end <| then_n ?_
  obtain rfl := some_ok H
  refine wp_ret ?_
  refine ret_gen (rs := [.tmp 2]) (vs := [.bool true]) F28 (by rfl) ⟨_, _, rfl, RV.tmp rfl, rfl⟩ ⟨_, rfl, ⟨rfl, s0⟩⟩
 ·replace H := ite_f hb22 H
  refine st_gop F21 rfl rfl (look_b rfl hb22) (ex_move rfl) rfl rfl fun q29 F30 => ?_
  refine st_gop F30 rfl rfl (look_b rfl hb22) (ex_eq rfl rfl) rfl rfl fun q31 F32 => ?_
  refine st_pr F32 (PR.op (ex_pick_f (ev_b rfl hb22) rfl) <| PR.op (ex_asg rfl) <| PR.nil) fun q33 F34 => ?_
  refine st_end <| then_n ?_
  obtain rfl := some_ok H
  refine wp_ret ?_
  refine ret_gen (rs := [.tmp 2]) (vs := [.bool ((a0.toNat : Int) == 20)]) F34 (by rfl) ⟨_, _, rfl, RV.tmp rfl, rfl⟩ ⟨_, rfl, ⟨rfl, s0⟩⟩
-- The walk of proviso/provisoref05.Place.
theorem provisoref05_Place_c {w : World} {v0 : Value} {a0 : List S_api_Instr} {a1 : Int} {r : Int} (hr0 : Rd T_api_Instr w [] v0 a0) (H : provisoref05_Place a0 a1 = some r) :
  Calls Try.prog 48 #[v0, .int .i64 a1] w (Ret fun u_ w_ => u_ = .int .i64 r ∧ SL w [] w_ []) := by
 have s0 : SL w [] w [] := SL.init0 w
 refine call_enter Try.func48 rfl Try.ntmps48 (Nat.le_of_ble_eq_true rfl) (args := [v0, .int .i64 a1]) fun q0 F0 => ?_
 unfold provisoref05_Place at H
 refine wp_seq <| wp_reg ?_
 refine st_pr F0 (PR.op (ex_asg rfl) <| PR.nil) fun q3 F4 => ?_
 refine st_end <| then_n <| wp_seq <| wp_seq <| wp_reg ?_
 refine st_pr F4 (PR.op (ex_move rfl) <| PR.op (ex_len rfl Try.underlying67 (formL (rdL hr0 s0))) <| PR.op (ex_move rfl) <| PR.nil) fun q1 F1 => ?_
 refine st_end <| then_n ?_
 obtain ⟨o0, H0, R0⟩ := bind_ok H
 clear H
 refine wp_cutn (fun a w_ => ∃ p0 : Unit, o0 = .inr (p0) ∧ Fr a 20 [] ∧ SL w [] w_ []) ?_ ?_
 ·have H := H0
  refine wp_block ?_
  refine wp_lp (provisoref05_Place_b0 a0 a1) (fun s1 a w_ => Fr a 20 [(1, .int .i64 a1), (7, v0), (8, .int .i64 (a0.length : Int)), (9, .int .i64 s1)] ∧ SL w [] w_ []) H ?_ ?_
  ·exact ⟨F1.sub ⟨rfl, rfl, rfl, rfl, trivial⟩, s0⟩
  ·intro s1 q2 w0 hI0 o1 H hr
   obtain ⟨F2, s2⟩ := hI0
   replace H : provisoref05_Place_b0 a0 a1 s1 = some o1 := H
   unfold provisoref05_Place_b0 at H
   refine wp_seq <| wp_reg ?_
   refine st_pr F2 (PR.op (ex_lt rfl rfl) <| PR.nil) fun q4 F3 => ?_
   refine st_end <| then_n <| wp_seq ?_
   refine wp_if F3 rfl (fun hb0 => ?_) (fun hb0 => ?_)
   ·replace H := ite_t hb0 H
    refine wp_skip <| then_n <| wp_seq <| wp_block <| wp_seq <| wp_reg ?_
    obtain ⟨x0, hx0, H⟩ := bind_ok H
    obtain ⟨a2, hi0, hc0⟩ := idxL F_api_Instr (rdL hr0 s2) Fx.sl67 rfl hx0
    refine st_pr F3 (PR.op (ex_move rfl) <| PR.op (hi0 _ _ _ _ _ _ _ _ _ _ rfl rfl) <| PR.op (ex_ldagg Fx.agg90 rfl hc0 rfl) <| PR.nil) fun q5 F5 => ?_
    refine st_alloc F5 s2 Fx.zero90 rfl rfl fun g0 w1 q6 F6 s3 => ?_
    refine st_pr F6 (PR.op (ex_asg rfl) <| PR.nil) fun q7 F7 => ?_
    have s4 := s3
    refine st_storea F7 s4 rfl rfl Fx.sz90 (one_cons rfl (one_cons rfl (one_cons rfl (one_cons rfl one_nil)))) (Nat.le_of_ble_eq_true rfl) fun w2 q8 F8 s5 => ?_
    replace s5 : SL w [] w2 [Blk g0 90 [.int .i64 x0.At, .int .u8 (x0.Op.toNat : Int), .int .i64 x0.A, .int .i64 x0.B]] := s5
    refine st_end <| then_n <| wp_seq <| wp_reg ?_
    refine st_pr F8 (PR.op (ex_fab Fx.fa90_0 rfl rfl) <| PR.op (ex_ld Fx.nag3 rfl (s5.blk_cell (.head _) rfl)) <| PR.op (ex_move rfl) <| PR.op (ex_eq rfl rfl) <| PR.nil) fun q9 F9 => ?_
    refine st_end <| then_n ?_
    refine wp_if F9 rfl (fun hb1 => ?_) (fun hb1 => ?_)
    ·replace H := ite_t hb1 H
     refine wp_seq <| wp_reg ?_
     refine st_pr F9 (PR.op (ex_move rfl) <| PR.op (ex_asg rfl) <| PR.nil) fun q10 F10 => ?_
     refine st_end <| then_n ?_
     obtain rfl := some_ok H
     obtain rfl := hr _ rfl
     replace H := R0
     dsimp only at H
     obtain rfl := some_ok H
     refine wp_ret ?_
     refine blk_r <| then_r <| then_r <| blk_r <| then_r <| then_r ?_
     refine ret_gen (rs := [.tmp 4]) (vs := [.int .i64 s1]) F10 (by rfl) ⟨_, _, rfl, RV.tmp rfl, rfl⟩ ⟨_, rfl, ⟨rfl, s5.drop⟩⟩
    ·replace H := ite_f hb1 H
     refine wp_skip ?_
     refine blk_n ?_
     refine then_n <| wp_reg ?_
     refine st_pr F9 (PR.op (ex_add rfl rfl) <| PR.op (ex_move rfl) <| PR.nil) fun q11 F11 => ?_
     refine st_end ?_
     obtain rfl := some_ok H
     refine then_n ?_
     exact ⟨_, rfl, F11.sub ⟨rfl, rfl, rfl, rfl, trivial⟩, s5.drop⟩
   ·replace H := ite_f hb0 H
    refine wp_exit <| then_x <| then_x <| blk_hit ?_
    obtain rfl := some_ok H
    obtain rfl := hr _ rfl
    refine then_n ?_
    exact ⟨_, rfl, F3.sub trivial, s2⟩
 ·intro q12 w3 hJ
  obtain ⟨p0, rfl, F12, s6⟩ := hJ
  have H := R0
  clear R0 H0
  dsimp only at H
  refine then_n <| wp_seq <| wp_reg ?_
  refine st_pr F12 (PR.op (ex_asg rfl) <| PR.nil) fun q13 F13 => ?_
  refine st_end <| then_n ?_
  obtain rfl := some_ok H
  refine wp_ret ?_
  refine ret_gen (rs := [.tmp 4]) (vs := [.int .i64 (-1)]) F13 (by rfl) ⟨_, _, rfl, RV.tmp rfl, rfl⟩ ⟨_, rfl, ⟨rfl, s6⟩⟩
-- The walk of proviso/provisoref04.Ends.
theorem provisoref04_Ends_c {w : World} {a0 : UInt8} {r : Bool}  (H : provisoref04_Ends a0 = some r) :
  Calls Try.prog 49 #[.int .u8 (a0.toNat : Int)] w (Ret fun u_ w_ => u_ = .bool r ∧ SL w [] w_ []) := by
 have s0 : SL w [] w [] := SL.init0 w
 refine call_enter Try.func49 rfl Try.ntmps49 (Nat.le_of_ble_eq_true rfl) (args := [.int .u8 (a0.toNat : Int)]) fun q0 F0 => ?_
 unfold provisoref04_Ends at H
 refine wp_seq <| wp_reg ?_
 refine st_pr F0 (PR.op (ex_asg rfl) <| PR.nil) fun q3 F4 => ?_
 refine st_end <| then_n <| wp_seq <| wp_reg ?_
 refine st_pr F4 (PR.op (ex_move rfl) <| PR.op (ex_eq rfl rfl) <| PR.op (ex_move rfl) <| PR.nil) fun q39 F40 => ?_
 refine bool_split ((a0.toNat : Int) == 19) (fun hb41 => ?_) (fun hb41 => ?_)
 ·replace H := ite_t hb41 H
  refine st_gskip F40 rfl rfl (look_b rfl hb41) Bool.noConfusion rfl rfl fun q42 F43 => ?_
  refine st_gskip F43 rfl rfl (look_b rfl hb41) Bool.noConfusion rfl rfl fun q44 F45 => ?_
  refine st_pr F45 (PR.op (ex_pick_t (ev_b rfl hb41) rfl) <| PR.op (ex_move rfl) <| PR.nil) fun q46 F47 => ?_
  refine st_gskip F47 rfl rfl rfl Bool.noConfusion rfl rfl fun q48 F49 => ?_
  refine st_gskip F49 rfl rfl rfl Bool.noConfusion rfl rfl fun q50 F51 => ?_
  refine st_pr F51 (PR.op (ex_pick_t rfl rfl) <| PR.op (ex_asg rfl) <| PR.nil) fun q52 F53 => ?_
  refine st_end <| then_n ?_
  obtain rfl := some_ok H
  refine wp_ret ?_
  refine ret_gen (rs := [.tmp 2]) (vs := [.bool true]) F53 (by rfl) ⟨_, _, rfl, RV.tmp rfl, rfl⟩ ⟨_, rfl, ⟨rfl, s0⟩⟩
 ·replace H := ite_f hb41 H
  refine st_gop F40 rfl rfl (look_b rfl hb41) (ex_move rfl) rfl rfl fun q54 F55 => ?_
  refine st_gop F55 rfl rfl (look_b rfl hb41) (ex_eq rfl rfl) rfl rfl fun q56 F57 => ?_
  refine st_pr F57 (PR.op (ex_pick_f (ev_b rfl hb41) rfl) <| PR.op (ex_move rfl) <| PR.nil) fun q58 F59 => ?_
  refine bool_split ((a0.toNat : Int) == 22) (fun hb60 => ?_) (fun hb60 => ?_)
  ·replace H := ite_t hb60 H
   refine st_gskip F59 rfl rfl (look_b rfl hb60) Bool.noConfusion rfl rfl fun q61 F62 => ?_
   refine st_gskip F62 rfl rfl (look_b rfl hb60) Bool.noConfusion rfl rfl fun q63 F64 => ?_
   refine st_pr F64 (PR.op (ex_pick_t (ev_b rfl hb60) rfl) <| PR.op (ex_asg rfl) <| PR.nil) fun q65 F66 => ?_
   refine st_end <| then_n ?_
   obtain rfl := some_ok H
   refine wp_ret ?_
   refine ret_gen (rs := [.tmp 2]) (vs := [.bool true]) F66 (by rfl) ⟨_, _, rfl, RV.tmp rfl, rfl⟩ ⟨_, rfl, ⟨rfl, s0⟩⟩
  ·replace H := ite_f hb60 H
   refine st_gop F59 rfl rfl (look_b rfl hb60) (ex_move rfl) rfl rfl fun q67 F68 => ?_
   refine st_gop F68 rfl rfl (look_b rfl hb60) (ex_eq rfl rfl) rfl rfl fun q69 F70 => ?_
   refine st_pr F70 (PR.op (ex_pick_f (ev_b rfl hb60) rfl) <| PR.op (ex_asg rfl) <| PR.nil) fun q71 F72 => ?_
   refine st_end <| then_n ?_
   obtain rfl := some_ok H
   refine wp_ret ?_
   refine ret_gen (rs := [.tmp 2]) (vs := [.bool ((a0.toNat : Int) == 32)]) F72 (by rfl) ⟨_, _, rfl, RV.tmp rfl, rfl⟩ ⟨_, rfl, ⟨rfl, s0⟩⟩
-- The walk of proviso/provisoref05.Check.
theorem provisoref05_Check_c {w : World} {v0 : Value} {a0 : List UInt8} {r : Int × Int} (hr0 : Rd Ty.u8 w [] v0 a0) (H : provisoref05_Check a0 = some r) :
  Calls Try.prog 25 #[v0] w (Ret fun u_ w_ => u_ = .tuple ⟨[.int .i64 r.1, .int .i64 r.2]⟩ ∧ SL w [] w_ []) := by
 have s0 : SL w [] w [] := SL.init0 w
 refine call_enter Try.func25 rfl Try.ntmps25 (Nat.le_of_ble_eq_true rfl) (args := [v0]) fun q0 F0 => ?_
 unfold provisoref05_Check at H
 refine wp_seq <| wp_reg ?_
 refine st_pr F0 (PR.op (ex_asg rfl) <| PR.op (ex_asg rfl) <| PR.nil) fun q3 F4 => ?_
 refine st_end <| then_n <| wp_seq <| wp_reg ?_
 obtain ⟨x20, hx21, H⟩ := bind_ok H
 refine st_pr F4 (PR.op (ex_move rfl) <| PR.nil) fun q22 F23 => ?_
 refine st_call (args := [.tmp 11]) F23 Fx.fn26 rfl (provisoref05_Scan_c (a0 := a0)  (hr0.pass0 s0) hx21) rfl fun v24 w25 q26 hS28 F27 => ?_
 obtain ⟨v31, rfl, hq30⟩ := hS28
 have s29 := s0.add hq30
 refine st_pr F27 (PR.op (ex_move rfl) <| PR.op (ex_extract (v := v31) rfl rfl) <| PR.op (ex_extract (v := .int .i64 x20.2.1) rfl rfl) <| PR.op (ex_extract (v := .int .i64 x20.2.2) rfl rfl) <| PR.op (ex_asg rfl) <| PR.op (ex_asg rfl) <| PR.op (ex_asg rfl) <| PR.nil) fun q33 F34 => ?_
 refine st_end <| then_n <| wp_seq <| wp_seq <| wp_reg ?_
 refine st_pr F34 (PR.op (ex_move rfl) <| PR.op (ex_ne rfl rfl) <| PR.nil) fun q46 F47 => ?_
 refine st_end <| then_n ?_
 refine wp_if F47 rfl (fun hb48 => ?_) (fun hb48 => ?_)
 ·replace H := ite_t hb48 H
  refine wp_seq <| wp_reg ?_
  refine st_pr F47 (PR.op (ex_move rfl) <| PR.op (ex_move rfl) <| PR.op (ex_asg rfl) <| PR.op (ex_asg rfl) <| PR.nil) fun q51 F52 => ?_
  refine st_end <| then_n ?_
  obtain rfl := some_ok H
  refine wp_ret ?_
  refine then_r ?_
  refine ret_gen (rs := [.tmp 2, .tmp 3]) (vs := [.int .i64 x20.2.1, .int .i64 x20.2.2]) F52 (by rfl) ⟨_, _, rfl, RV.tmp rfl, _, _, rfl, RV.tmp rfl, rfl⟩ ⟨_, rfl, ⟨rfl, s29.drop⟩⟩
 ·replace H := ite_f hb48 H
  refine wp_skip <| then_n <| wp_seq <| wp_seq <| wp_reg ?_
  refine st_pr F47 (PR.op (ex_move rfl) <| PR.op (ex_len rfl Try.underlying67 (formL (s29.own_rd (.head _)))) <| PR.op (ex_move rfl) <| PR.nil) fun q1 F1 => ?_
  refine st_end <| then_n ?_
  obtain ⟨o0, H0, R0⟩ := bind_ok H
  clear H
  refine wp_cutn (fun a w_ => ∃ p0 : Unit, o0 = .inr (p0) ∧ Fr a 54 [(4, v31)] ∧ SL w [] w_ [Sl T_api_Instr v31 x20.1]) ?_ ?_
  ·have H := H0
   refine wp_block ?_
   refine wp_lp (provisoref05_Check_b0 x20) (fun s1 a w_ => Fr a 54 [(4, v31), (20, v31), (21, .int .i64 (x20.1.length : Int)), (22, .int .i64 s1)] ∧ SL w [] w_ [Sl T_api_Instr v31 x20.1]) H ?_ ?_
   ·exact ⟨F1.sub ⟨rfl, rfl, rfl, rfl, trivial⟩, s29⟩
   ·intro s1 q2 w0 hI0 o1 H hr
    obtain ⟨F2, s2⟩ := hI0
    replace H : provisoref05_Check_b0 x20 s1 = some o1 := H
    unfold provisoref05_Check_b0 at H
    refine wp_seq <| wp_reg ?_
    refine st_pr F2 (PR.op (ex_lt rfl rfl) <| PR.nil) fun q4 F3 => ?_
    refine st_end <| then_n <| wp_seq ?_
    refine wp_if F3 rfl (fun hb0 => ?_) (fun hb0 => ?_)
    ·replace H := ite_t hb0 H
     refine wp_skip <| then_n <| wp_seq <| wp_block <| wp_seq <| wp_reg ?_
     obtain ⟨x0, hx0, H⟩ := bind_ok H
     obtain ⟨a2, hi0, he0⟩ := own_idx F_api_Instr s2 (.head _) Fx.sl67 rfl hx0
     refine st_pr F3 (PR.op (hi0 _ _ _ _ _ _ _ _ _ _ rfl rfl) <| PR.op (ex_ldagg Fx.agg90 rfl (SL.elcells F_api_Instr s2 (.head _) he0 hx0) rfl) <| PR.nil) fun q5 F5 => ?_
     refine st_alloc F5 s2 Fx.zero90 rfl rfl fun g0 w1 q6 F6 s3 => ?_
     have s4 := s3
     refine st_storea F6 s4 rfl rfl Fx.sz90 (one_cons rfl (one_cons rfl (one_cons rfl (one_cons rfl one_nil)))) (Nat.le_of_ble_eq_true rfl) fun w2 q7 F7 s5 => ?_
     replace s5 : SL w [] w2 [Blk g0 90 [.int .i64 x0.At, .int .u8 (x0.Op.toNat : Int), .int .i64 x0.A, .int .i64 x0.B], Sl T_api_Instr v31 x20.1] := s5
     refine st_end <| then_n <| wp_seq <| wp_reg ?_
     obtain ⟨x1, hx1, H⟩ := bind_ok H
     refine st_pr F7 (PR.op (ex_fab Fx.fa90_1 rfl rfl) <| PR.op (ex_ld Fx.nag5 rfl (s5.blk_cell (.head _) rfl)) <| PR.nil) fun q8 F8 => ?_
     refine st_call (args := [.tmp 27]) F8 Fx.fn47 rfl (provisoref04_Jumps_c (a0 := x0.Op)   hx1) rfl fun v1 w3 q9 hS0 F9 => ?_
     obtain ⟨rfl, hq0⟩ := hS0
     have s6 := s5.add hq0
     refine st_pr F9 (PR.op (ex_move rfl) <| PR.nil) fun q10 F10 => ?_
     refine bool_split x1 (fun hb1 => ?_) (fun hb1 => ?_)
     ·replace H := ite_t hb1 H
      refine st_gop F10 rfl rfl (look_b rfl hb1) (ex_move rfl) rfl rfl fun q11 F11 => ?_
      refine st_gop F11 rfl rfl (look_b rfl hb1) (ex_fab Fx.fa90_2 rfl rfl) rfl rfl fun q12 F12 => ?_
      refine st_gop F12 rfl rfl (look_b rfl hb1) (ex_ld Fx.nag3 rfl (s6.blk_cell (.head _) rfl)) rfl rfl fun q13 F13 => ?_
      obtain ⟨x2, hx2, H⟩ := bind_ok H
      refine st_ungd F13 rfl (look_b rfl hb1) ?_
      refine st_call (args := [.tmp 30, .tmp 32]) F13 Fx.fn48 rfl (provisoref05_Place_c (a0 := x20.1) (a1 := x0.A)  (s6.rd0 (.tail _ <| .head _)) hx2) rfl fun v2 w4 q14 hS1 F14 => ?_
      obtain ⟨rfl, hq1⟩ := hS1
      have s7 := s6.add hq1
      refine st_gop F14 rfl rfl (look_b rfl hb1) (ex_lt rfl rfl) rfl rfl fun q15 F15 => ?_
      refine st_pr F15 (PR.op (ex_pick_t (ev_b rfl hb1) rfl) <| PR.nil) fun q16 F16 => ?_
      refine st_end <| then_n ?_
      refine wp_if F16 rfl (fun hb2 => ?_) (fun hb2 => ?_)
      ·replace H := ite_t hb2 H
       refine wp_seq <| wp_reg ?_
       refine st_pr F16 (PR.op (ex_fab Fx.fa90_0 rfl rfl) <| PR.op (ex_ld Fx.nag3 rfl (s7.blk_cell (.head _) rfl)) <| PR.op (ex_asg rfl) <| PR.op (ex_asg rfl) <| PR.nil) fun q17 F17 => ?_
       refine st_end <| then_n ?_
       obtain rfl := some_ok H
       obtain rfl := hr _ rfl
       replace H := R0
       dsimp only at H
       obtain rfl := some_ok H
       refine wp_ret ?_
       refine blk_r <| then_r <| then_r <| blk_r <| then_r <| then_r ?_
       refine ret_gen (rs := [.tmp 2, .tmp 3]) (vs := [.int .i64 x0.At, .int .i64 50]) F17 (by rfl) ⟨_, _, rfl, RV.tmp rfl, _, _, rfl, RV.tmp rfl, rfl⟩ ⟨_, rfl, ⟨rfl, s7.drop.drop⟩⟩
      ·replace H := ite_f hb2 H
       refine wp_skip ?_
       refine blk_n ?_
       refine then_n <| wp_reg ?_
       refine st_pr F16 (PR.op (ex_add rfl rfl) <| PR.op (ex_move rfl) <| PR.nil) fun q18 F18 => ?_
       refine st_end ?_
       obtain rfl := some_ok H
       refine then_n ?_
       exact ⟨_, rfl, F18.sub ⟨rfl, rfl, rfl, rfl, trivial⟩, s7.drop⟩
     ·replace H := ite_f hb1 H
      refine st_gskip F10 rfl rfl (look_b rfl hb1) Bool.noConfusion rfl rfl fun q19 F19 => ?_
      refine st_gskip F19 rfl rfl (look_b rfl hb1) Bool.noConfusion rfl rfl fun q20 F20 => ?_
      refine st_gskip F20 rfl rfl (look_b rfl hb1) Bool.noConfusion rfl rfl fun q21 F21 => ?_
      refine st_gskip F21 rfl rfl (look_b rfl hb1) Bool.noConfusion rfl rfl fun q23 F22 => ?_
      refine st_gskip F22 rfl rfl (look_b rfl hb1) Bool.noConfusion rfl rfl fun q24 F24 => ?_
      refine st_pr F24 (PR.op (ex_pick_f (ev_b rfl hb1) rfl) <| PR.nil) fun q25 F25 => ?_
      refine st_end <| then_n ?_
      refine wp_if_f F25 rfl ?_
      refine wp_skip ?_
      refine blk_n ?_
      refine then_n <| wp_reg ?_
      refine st_pr F25 (PR.op (ex_add rfl rfl) <| PR.op (ex_move rfl) <| PR.nil) fun q27 F26 => ?_
      refine st_end ?_
      obtain rfl := some_ok H
      refine then_n ?_
      exact ⟨_, rfl, F26.sub ⟨rfl, rfl, rfl, rfl, trivial⟩, s6.drop⟩
    ·replace H := ite_f hb0 H
     refine wp_exit <| then_x <| then_x <| blk_hit ?_
     obtain rfl := some_ok H
     obtain rfl := hr _ rfl
     refine then_n ?_
     exact ⟨_, rfl, F3.sub ⟨rfl, trivial⟩, s2⟩
  ·intro q28 w5 hJ
   obtain ⟨p0, rfl, F28, s8⟩ := hJ
   have H := R0
   clear R0 H0
   dsimp only at H
   refine then_n <| wp_seq <| wp_seq <| wp_reg ?_
   refine st_pr F28 (PR.op (ex_move rfl) <| PR.op (ex_len rfl Try.underlying67 (formL (s8.own_rd (.head _)))) <| PR.op (ex_eq rfl rfl) <| PR.nil) fun q29 F29 => ?_
   refine st_end <| then_n ?_
   refine wp_if F29 rfl (fun hb3 => ?_) (fun hb3 => ?_)
   ·replace H := ite_t hb3 H
    refine wp_seq <| wp_reg ?_
    refine st_pr F29 (PR.op (ex_asg rfl) <| PR.op (ex_asg rfl) <| PR.nil) fun q30 F30 => ?_
    refine st_end <| then_n ?_
    obtain rfl := some_ok H
    refine wp_ret ?_
    refine then_r ?_
    refine ret_gen (rs := [.tmp 2, .tmp 3]) (vs := [.int .i64 0, .int .i64 51]) F30 (by rfl) ⟨_, _, rfl, RV.tmp rfl, _, _, rfl, RV.tmp rfl, rfl⟩ ⟨_, rfl, ⟨rfl, s8.drop⟩⟩
   ·replace H := ite_f hb3 H
    refine wp_skip <| then_n <| wp_seq <| wp_seq <| wp_reg ?_
    obtain ⟨x3, hx3, H⟩ := bind_ok H
    obtain ⟨a3, hi1, he1⟩ := own_idx F_api_Instr s8 (.head _) Fx.sl67 rfl hx3
    refine st_pr F29 (PR.op (ex_move rfl) <| PR.op (ex_move rfl) <| PR.op (ex_len rfl Try.underlying67 (formL (s8.own_rd (.head _)))) <| PR.op (ex_sub rfl rfl) <| PR.op (hi1 _ _ _ _ _ _ _ _ _ _ rfl rfl) <| PR.op (ex_ldagg Fx.agg90 rfl (SL.elcells F_api_Instr s8 (.head _) he1 hx3) rfl) <| PR.nil) fun q31 F31 => ?_
    refine st_alloc F31 s8 Fx.zero90 rfl rfl fun g1 w6 q32 F32 s9 => ?_
    have s10 := s9
    refine st_storea F32 s10 rfl rfl Fx.sz90 (one_cons rfl (one_cons rfl (one_cons rfl (one_cons rfl one_nil)))) (Nat.le_of_ble_eq_true rfl) fun w7 q34 F33 s11 => ?_
    replace s11 : SL w [] w7 [Blk g1 90 [.int .i64 x3.At, .int .u8 (x3.Op.toNat : Int), .int .i64 x3.A, .int .i64 x3.B], Sl T_api_Instr v31 x20.1] := s11
    refine st_end <| then_n <| wp_seq <| wp_reg ?_
    obtain ⟨x4, hx4, H⟩ := bind_ok H
    refine st_pr F33 (PR.op (ex_fab Fx.fa90_1 rfl rfl) <| PR.op (ex_ld Fx.nag5 rfl (s11.blk_cell (.head _) rfl)) <| PR.nil) fun q35 F35 => ?_
    refine st_call (args := [.tmp 49]) F35 Fx.fn49 rfl (provisoref04_Ends_c (a0 := x3.Op)   hx4) rfl fun v3 w8 q36 hS2 F36 => ?_
    obtain ⟨rfl, hq2⟩ := hS2
    have s12 := s11.add hq2
    refine st_pr F36 (PR.op (ex_not rfl) <| PR.nil) fun q37 F37 => ?_
    refine st_end <| then_n ?_
    refine wp_if F37 rfl (fun hb4 => ?_) (fun hb4 => ?_)
    ·replace H := ite_t hb4 H
     refine wp_seq <| wp_reg ?_
     refine st_pr F37 (PR.op (ex_fab Fx.fa90_0 rfl rfl) <| PR.op (ex_ld Fx.nag3 rfl (s12.blk_cell (.head _) rfl)) <| PR.op (ex_asg rfl) <| PR.op (ex_asg rfl) <| PR.nil) fun q38 F38 => ?_
     refine st_end <| then_n ?_
     obtain rfl := some_ok H
     refine wp_ret ?_
     refine then_r ?_
     refine ret_gen (rs := [.tmp 2, .tmp 3]) (vs := [.int .i64 x3.At, .int .i64 51]) F38 (by rfl) ⟨_, _, rfl, RV.tmp rfl, _, _, rfl, RV.tmp rfl, rfl⟩ ⟨_, rfl, ⟨rfl, s12.drop.drop⟩⟩
    ·replace H := ite_f hb4 H
     refine wp_skip <| then_n <| wp_seq <| wp_reg ?_
     refine st_pr F37 (PR.op (ex_asg rfl) <| PR.op (ex_asg rfl) <| PR.nil) fun q39 F39 => ?_
     refine st_end <| then_n ?_
     obtain rfl := some_ok H
     refine wp_ret ?_
     refine ret_gen (rs := [.tmp 2, .tmp 3]) (vs := [.int .i64 0, .int .i64 0]) F39 (by rfl) ⟨_, _, rfl, RV.tmp rfl, _, _, rfl, RV.tmp rfl, rfl⟩ ⟨_, rfl, ⟨rfl, s12.drop.drop⟩⟩
-- The walk of proviso/provisoref19.read.
theorem provisoref19_read_c {w : World} {v0 : Value} {a0 : List UInt8} {r : (List S_provisoref19_ins)} (hr0 : Rd Ty.u8 w [] v0 a0) (H : provisoref19_read a0 = some r) :
  Calls Try.prog 73 #[v0] w (Ret fun u_ w_ => ∃ u0 : Value, u_ = u0 ∧ SL w [] w_ [Sl T_provisoref19_ins u0 r]) := by
 have s0 : SL w [] w [] := SL.init0 w
 refine call_enter Try.func73 rfl Try.ntmps73 (Nat.le_of_ble_eq_true rfl) (args := [v0]) fun q0 F0 => ?_
 unfold provisoref19_read at H
 refine wp_seq <| wp_reg ?_
 refine st_pr F0 (PR.op (ex_asg rfl) <| PR.nil) fun q3 F4 => ?_
 refine st_end <| then_n <| wp_seq <| wp_reg ?_
 obtain ⟨x20, hx21, H⟩ := bind_ok H
 refine st_pr F4 (PR.op (ex_move rfl) <| PR.nil) fun q22 F23 => ?_
 refine st_call (args := [.tmp 11]) F23 Fx.fn26 rfl (provisoref05_Scan_c (a0 := a0)  (hr0.pass0 s0) hx21) rfl fun v24 w25 q26 hS28 F27 => ?_
 obtain ⟨v31, rfl, hq30⟩ := hS28
 have s29 := s0.add hq30
 refine st_pr F27 (PR.op (ex_move rfl) <| PR.op (ex_extract (v := v31) rfl rfl) <| PR.op (ex_extract (v := .int .i64 x20.2.1) rfl rfl) <| PR.op (ex_extract (v := .int .i64 x20.2.2) rfl rfl) <| PR.op (ex_asg rfl) <| PR.op (ex_asg rfl) <| PR.op (ex_asg rfl) <| PR.nil) fun q33 F34 => ?_
 refine st_end <| then_n <| wp_seq <| wp_reg ?_
 refine st_pr F34 (PR.op (ex_asg rfl) <| PR.nil) fun q37 F38 => ?_
 refine st_end <| then_n <| wp_seq <| wp_seq <| wp_reg ?_
 refine st_pr F38 (PR.op (ex_move rfl) <| PR.op (ex_len rfl Try.underlying67 (formL (s29.own_rd (.head _)))) <| PR.op (ex_move rfl) <| PR.nil) fun q1 F1 => ?_
 refine st_end <| then_n ?_
 obtain ⟨o0, H0, R0⟩ := bind_ok H
 clear H
 refine wp_cutn (fun a w_ => ∃ v1 : Value, Fr a 44 [(6, v1)] ∧ SL w [] w_ [Sl T_provisoref19_ins v1 o0]) ?_ ?_
 ·have H := H0
  refine wp_block ?_
  refine wp_lp (provisoref19_read_b0 x20) (fun s1 a w_ => ∃ v2 : Value, Fr a 44 [(3, v31), (6, v2), (16, v31), (17, .int .i64 (x20.1.length : Int)), (18, .int .i64 s1.2)] ∧ SL w [] w_ [Sl T_api_Instr v31 x20.1, Sl T_provisoref19_ins v2 s1.1]) H ?_ ?_
  ·exact ⟨(.slice none 0 0), F1.sub ⟨rfl, rfl, rfl, rfl, rfl, trivial⟩, (SL.nilSl (T := T_provisoref19_ins) s29).f1⟩
  ·intro s1 q2 w0 hI0 o1 H hr
   obtain ⟨v2, F2, s2⟩ := hI0
   replace H : provisoref19_read_b0 x20 s1 = some o1 := H
   unfold provisoref19_read_b0 at H
   refine wp_seq <| wp_reg ?_
   refine st_pr F2 (PR.op (ex_lt rfl rfl) <| PR.nil) fun q4 F3 => ?_
   refine st_end <| then_n <| wp_seq ?_
   refine wp_if F3 rfl (fun hb0 => ?_) (fun hb0 => ?_)
   ·replace H := ite_t hb0 H
    refine wp_skip <| then_n <| wp_seq <| wp_block <| wp_seq <| wp_reg ?_
    obtain ⟨x0, hx0, H⟩ := bind_ok H
    obtain ⟨a2, hi0, he0⟩ := own_idx F_api_Instr s2 (.head _) Fx.sl67 rfl hx0
    refine st_pr F3 (PR.op (hi0 _ _ _ _ _ _ _ _ _ _ rfl rfl) <| PR.op (ex_ldagg Fx.agg90 rfl (SL.elcells F_api_Instr s2 (.head _) he0 hx0) rfl) <| PR.nil) fun q5 F5 => ?_
    refine st_alloc F5 s2 Fx.zero90 rfl rfl fun g0 w1 q6 F6 s3 => ?_
    have s4 := s3
    refine st_storea F6 s4 rfl rfl Fx.sz90 (one_cons rfl (one_cons rfl (one_cons rfl (one_cons rfl one_nil)))) (Nat.le_of_ble_eq_true rfl) fun w2 q7 F7 s5 => ?_
    replace s5 : SL w [] w2 [Blk g0 90 [.int .i64 x0.At, .int .u8 (x0.Op.toNat : Int), .int .i64 x0.A, .int .i64 x0.B], Sl T_api_Instr v31 x20.1, Sl T_provisoref19_ins v2 s1.1] := s5
    refine st_end <| then_n <| wp_seq <| wp_reg ?_
    refine st_pr F7 (PR.op (ex_fab Fx.fa90_1 rfl rfl) <| PR.op (ex_ld Fx.nag5 rfl (s5.blk_cell (.head _) rfl)) <| PR.op (ex_fab Fx.fa90_2 rfl rfl) <| PR.op (ex_ld Fx.nag3 rfl (s5.blk_cell (.head _) rfl)) <| PR.op (ex_fab Fx.fa90_3 rfl rfl) <| PR.op (ex_ld Fx.nag3 rfl (s5.blk_cell (.head _) rfl)) <| PR.op (ex_build (vs := [.int .u8 (x0.Op.toNat : Int), .int .i64 x0.A, .int .i64 x0.B, .int .i64 (-1)]) Fx.zero156 Fx.pl156 rfl (cs := [.int .u8 (x0.Op.toNat : Int), .int .i64 x0.A, .int .i64 x0.B, .int .i64 (-1)]) (rfl)) <| PR.nil) fun q8 F8 => ?_
    refine st_alloc F8 s5 Fx.zero156 rfl rfl fun g1 w3 q9 F9 s6 => ?_
    have s7 := s6
    refine st_storea F9 s7 rfl rfl Fx.sz156 (one_cons rfl (one_cons rfl (one_cons rfl (one_cons rfl one_nil)))) (Nat.le_of_ble_eq_true rfl) fun w4 q10 F10 s8 => ?_
    replace s8 : SL w [] w4 [Blk g1 156 [.int .u8 (x0.Op.toNat : Int), .int .i64 x0.A, .int .i64 x0.B, .int .i64 (-1)], Blk g0 90 [.int .i64 x0.At, .int .u8 (x0.Op.toNat : Int), .int .i64 x0.A, .int .i64 x0.B], Sl T_api_Instr v31 x20.1, Sl T_provisoref19_ins v2 s1.1] := s8
    refine st_end <| then_n <| wp_seq <| wp_seq <| wp_reg ?_
    obtain ⟨x1, hx1, H⟩ := bind_ok H
    refine st_pr F10 (PR.op (ex_fab Fx.fa90_1 rfl rfl) <| PR.op (ex_ld Fx.nag5 rfl (s8.blk_cell (.tail _ <| .head _) rfl)) <| PR.nil) fun q11 F11 => ?_
    refine st_call (args := [.tmp 30]) F11 Fx.fn47 rfl (provisoref04_Jumps_c (a0 := x0.Op)   hx1) rfl fun v3 w5 q12 hS0 F12 => ?_
    obtain ⟨rfl, hq0⟩ := hS0
    have s9 := s8.add hq0
    refine st_end <| then_n ?_
    refine wp_if F12 rfl (fun hb1 => ?_) (fun hb1 => ?_)
    ·replace H := ite_t hb1 H
     refine wp_seq <| wp_reg ?_
     obtain ⟨x2, hx2, H⟩ := bind_ok H
     refine st_pr F12 (PR.op (ex_move rfl) <| PR.op (ex_fab Fx.fa90_2 rfl rfl) <| PR.op (ex_ld Fx.nag3 rfl (s9.blk_cell (.tail _ <| .head _) rfl)) <| PR.nil) fun q13 F13 => ?_
     refine st_call (args := [.tmp 32, .tmp 34]) F13 Fx.fn48 rfl (provisoref05_Place_c (a0 := x20.1) (a1 := x0.A)  (s9.rd0 (.tail _ <| .tail _ <| .head _)) hx2) rfl fun v4 w6 q14 hS1 F14 => ?_
     obtain ⟨rfl, hq1⟩ := hS1
     have s10 := s9.add hq1
     refine st_pr F14 (PR.op (ex_fab Fx.fa156_3 rfl rfl) <| PR.nil) fun q15 F15 => ?_
     have s11 := s10
     refine st_store F15 s11 rfl rfl Fx.sz3 rfl rfl rfl fun w7 q16 F16 s12 => ?_
     replace s12 : SL w [] w7 [Blk g1 156 [.int .u8 (x0.Op.toNat : Int), .int .i64 x0.A, .int .i64 x0.B, .int .i64 x2], Blk g0 90 [.int .i64 x0.At, .int .u8 (x0.Op.toNat : Int), .int .i64 x0.A, .int .i64 x0.B], Sl T_api_Instr v31 x20.1, Sl T_provisoref19_ins v2 s1.1] := s12
     refine st_end <| then_n <| wp_reg ?_
     refine st_pr F16 (PR.op (ex_fab Fx.fa156_1 rfl rfl) <| PR.nil) fun q17 F17 => ?_
     have s13 := s12
     refine st_store F17 s13 rfl rfl Fx.sz3 rfl rfl rfl fun w8 q18 F18 s14 => ?_
     replace s14 : SL w [] w8 [Blk g1 156 [.int .u8 (x0.Op.toNat : Int), .int .i64 0, .int .i64 x0.B, .int .i64 x2], Blk g0 90 [.int .i64 x0.At, .int .u8 (x0.Op.toNat : Int), .int .i64 x0.A, .int .i64 x0.B], Sl T_api_Instr v31 x20.1, Sl T_provisoref19_ins v2 s1.1] := s14
     refine st_end <| then_n <| wp_reg ?_
     refine st_pr F18 (PR.op (ex_move rfl) <| PR.op (ex_ldagg Fx.agg156 rfl (s14.blk_cells (.head _) (o := 0) (ds := [.int .u8 (x0.Op.toNat : Int), .int .i64 0, .int .i64 x0.B, .int .i64 x2]) (fun j u hu => by rw [Nat.zero_add]; exact hu)) rfl) <| PR.nil) fun q19 F19 => ?_
     refine st_bslice (parts := [(0, .tmp 39)]) F_provisoref19_ins ([(⟨x0.Op, 0, x0.B, x2⟩ : S_provisoref19_ins)] : List S_provisoref19_ins) F19 s14 Fx.sl126 rfl (by decide) rfl rfl rfl (by simp [Value.cells]) rfl rfl rfl fun v5 w9 q20 F20 s15 => ?_
     obtain ⟨x3, hx3, H⟩ := bind_ok H
     have s16 := s15.f4
     obtain ⟨_, hr_⟩ := (s16.own_rd (.tail _ <| .head _))
     refine st_append_rd F_provisoref19_ins F20 s16 Fx.sl126 rfl rfl rfl rfl hr_ rfl rfl hx3 rfl fun v6 w10 q21 F21 s17 => ?_
     have s11441' := s17.f1.drop
     refine st_pr F21 (PR.op (ex_asg rfl) <| PR.nil) fun q23 F22 => ?_
     refine st_end ?_
     refine blk_n ?_
     refine then_n <| wp_reg ?_
     refine st_pr F22 (PR.op (ex_add rfl rfl) <| PR.op (ex_move rfl) <| PR.nil) fun q24 F24 => ?_
     refine st_end ?_
     obtain rfl := some_ok H
     refine then_n ?_
     exact ⟨_, rfl, v6, F24.sub ⟨rfl, rfl, rfl, rfl, rfl, trivial⟩, s11441'.f1.drop.f1.drop.f1⟩
    ·replace H := ite_f hb1 H
     refine wp_skip <| then_n <| wp_reg ?_
     refine st_pr F12 (PR.op (ex_move rfl) <| PR.op (ex_ldagg Fx.agg156 rfl (s9.blk_cells (.head _) (o := 0) (ds := [.int .u8 (x0.Op.toNat : Int), .int .i64 x0.A, .int .i64 x0.B, .int .i64 (-1)]) (fun j u hu => by rw [Nat.zero_add]; exact hu)) rfl) <| PR.nil) fun q25 F25 => ?_
     refine st_bslice (parts := [(0, .tmp 39)]) F_provisoref19_ins ([(⟨x0.Op, x0.A, x0.B, (-1)⟩ : S_provisoref19_ins)] : List S_provisoref19_ins) F25 s9 Fx.sl126 rfl (by decide) rfl rfl rfl (by simp [Value.cells]) rfl rfl rfl fun v7 w11 q27 F26 s18 => ?_
     obtain ⟨x4, hx4, H⟩ := bind_ok H
     have s19 := s18.f4
     obtain ⟨_, hr_⟩ := (s19.own_rd (.tail _ <| .head _))
     refine st_append_rd F_provisoref19_ins F26 s19 Fx.sl126 rfl rfl rfl rfl hr_ rfl rfl hx4 rfl fun v8 w12 q28 F28 s20 => ?_
     have s11461' := s20.f1.drop
     refine st_pr F28 (PR.op (ex_asg rfl) <| PR.nil) fun q29 F29 => ?_
     refine st_end ?_
     refine blk_n ?_
     refine then_n <| wp_reg ?_
     refine st_pr F29 (PR.op (ex_add rfl rfl) <| PR.op (ex_move rfl) <| PR.nil) fun q30 F30 => ?_
     refine st_end ?_
     obtain rfl := some_ok H
     refine then_n ?_
     exact ⟨_, rfl, v8, F30.sub ⟨rfl, rfl, rfl, rfl, rfl, trivial⟩, s11461'.f1.drop.f1.drop.f1⟩
   ·replace H := ite_f hb0 H
    refine wp_exit <| then_x <| then_x <| blk_hit ?_
    obtain rfl := some_ok H
    obtain rfl := hr _ rfl
    refine then_n ?_
    exact ⟨v2, F3.sub ⟨rfl, trivial⟩, s2.drop⟩
 ·intro q31 w13 hJ
  obtain ⟨v1, F31, s21⟩ := hJ
  have H := R0
  clear R0 H0
  refine then_n <| wp_seq <| wp_reg ?_
  refine st_pr F31 (PR.op (ex_move rfl) <| PR.op (ex_asg rfl) <| PR.nil) fun q32 F32 => ?_
  refine st_end <| then_n ?_
  obtain rfl := some_ok H
  refine wp_ret ?_
  refine ret_gen (rs := [.tmp 2]) (vs := [v1]) F32 (by rfl) ⟨_, _, rfl, RV.tmp rfl, rfl⟩ ⟨_, rfl, ⟨v1, rfl, s21⟩⟩
-- The walk of proviso/provisoref19.led.
theorem provisoref19_led_c {w : World} {v0 : Value} {a0 : List S_provisoref19_ins} {r : (List Bool)} (hr0 : Rd T_provisoref19_ins w [] v0 a0) (H : provisoref19_led a0 = some r) :
  Calls Try.prog 102 #[v0] w (Ret fun u_ w_ => ∃ u0 : Value, u_ = u0 ∧ SL w [] w_ [Sl Ty.bool u0 r]) := by
 have s0 : SL w [] w [] := SL.init0 w
 refine call_enter Try.func102 rfl Try.ntmps102 (Nat.le_of_ble_eq_true rfl) (args := [v0]) fun q0 F0 => ?_
 unfold provisoref19_led at H
 refine wp_seq <| wp_reg ?_
 refine st_pr F0 (PR.op (ex_asg rfl) <| PR.nil) fun q3 F4 => ?_
 refine st_end <| then_n <| wp_seq <| wp_reg ?_
 obtain ⟨x17, hx18, H⟩ := bind_ok H
 refine st_pr F4 (PR.op (ex_move rfl) <| PR.op (ex_len rfl Try.underlying126 (formL (rdL hr0 s0))) <| PR.nil) fun q19 F20 => ?_
 refine st_make Flat.bool false F20 s0 Fx.sl93 rfl rfl Fx.zero4 rfl rfl rfl hx18 rfl fun v21 w22 q23 F24 s25 => ?_
 refine st_pr F24 (PR.op (ex_asg rfl) <| PR.nil) fun q27 F28 => ?_
 refine st_end <| then_n <| wp_seq <| wp_seq <| wp_reg ?_
 refine st_pr F28 (PR.op (ex_move rfl) <| PR.op (ex_len rfl Try.underlying126 (formL (rdL hr0 s25))) <| PR.op (ex_move rfl) <| PR.nil) fun q1 F1 => ?_
 refine st_end <| then_n ?_
 obtain ⟨o0, H0, R0⟩ := bind_ok H
 clear H
 refine wp_cutn (fun a w_ => ∃ v1 : Value, Fr a 24 [(3, v1)] ∧ SL w [] w_ [Sl Ty.bool v1 o0]) ?_ ?_
 ·have H := H0
  refine wp_block ?_
  refine wp_lp (provisoref19_led_b0 a0) (fun s1 a w_ => ∃ v2 : Value, Fr a 24 [(3, v2), (9, v0), (10, .int .i64 (a0.length : Int)), (11, .int .i64 s1.2)] ∧ SL w [] w_ [Sl Ty.bool v2 s1.1]) H ?_ ?_
  ·exact ⟨v21, F1.sub ⟨rfl, rfl, rfl, rfl, trivial⟩, s25⟩
  ·intro s1 q2 w0 hI0 o1 H hr
   obtain ⟨v2, F2, s2⟩ := hI0
   replace H : provisoref19_led_b0 a0 s1 = some o1 := H
   unfold provisoref19_led_b0 at H
   refine wp_seq <| wp_reg ?_
   refine st_pr F2 (PR.op (ex_lt rfl rfl) <| PR.nil) fun q4 F3 => ?_
   refine st_end <| then_n <| wp_seq ?_
   refine wp_if F3 rfl (fun hb0 => ?_) (fun hb0 => ?_)
   ·replace H := ite_t hb0 H
    refine wp_skip <| then_n <| wp_seq <| wp_block <| wp_seq <| wp_reg ?_
    obtain ⟨x0, hx0, H⟩ := bind_ok H
    obtain ⟨a1, hi0, hc0⟩ := idxL F_provisoref19_ins (rdL hr0 s2) Fx.sl126 rfl hx0
    refine st_pr F3 (PR.op (hi0 _ _ _ _ _ _ _ _ _ _ rfl rfl) <| PR.op (ex_ldagg Fx.agg156 rfl hc0 rfl) <| PR.nil) fun q5 F5 => ?_
    refine st_alloc F5 s2 Fx.zero156 rfl rfl fun g0 w1 q6 F6 s3 => ?_
    have s4 := s3
    refine st_storea F6 s4 rfl rfl Fx.sz156 (one_cons rfl (one_cons rfl (one_cons rfl (one_cons rfl one_nil)))) (Nat.le_of_ble_eq_true rfl) fun w2 q7 F7 s5 => ?_
    replace s5 : SL w [] w2 [Blk g0 156 [.int .u8 (x0.op.toNat : Int), .int .i64 x0.a, .int .i64 x0.b, .int .i64 x0.to], Sl Ty.bool v2 s1.1] := s5
    refine st_end <| then_n <| wp_seq <| wp_reg ?_
    refine st_pr F7 (PR.op (ex_fab Fx.fa156_3 rfl rfl) <| PR.op (ex_ld Fx.nag3 rfl (s5.blk_cell (.head _) rfl)) <| PR.op (ex_ge rfl rfl) <| PR.nil) fun q8 F8 => ?_
    refine st_end <| then_n ?_
    refine wp_if F8 rfl (fun hb1 => ?_) (fun hb1 => ?_)
    ·replace H := ite_t hb1 H
     refine wp_reg ?_
     obtain ⟨x1, hx1, H⟩ := bind_ok H
     obtain ⟨a2, hi1, he0⟩ := own_idx Flat.bool s5 (.tail _ <| .head _) Fx.sl93 rfl hx1
     refine st_pr F8 (PR.op (ex_move rfl) <| PR.op (ex_fab Fx.fa156_3 rfl rfl) <| PR.op (ex_ld Fx.nag3 rfl (s5.blk_cell (.head _) rfl)) <| PR.op (hi1 _ _ _ _ _ _ _ _ _ _ rfl rfl) <| PR.nil) fun q9 F9 => ?_
     refine st_setel (y' := true) Flat.bool F9 s5.f1 he0 hx1 rfl rfl (by rfl) Fx.sz4 fun w3 q10 F10 s6 => ?_
     refine st_end ?_
     refine blk_n ?_
     refine then_n <| wp_reg ?_
     refine st_pr F10 (PR.op (ex_add rfl rfl) <| PR.op (ex_move rfl) <| PR.nil) fun q11 F11 => ?_
     refine st_end ?_
     obtain rfl := some_ok H
     refine then_n ?_
     exact ⟨_, rfl, v2, F11.sub ⟨rfl, rfl, rfl, rfl, trivial⟩, s6.f1.drop⟩
    ·replace H := ite_f hb1 H
     refine wp_skip ?_
     refine blk_n ?_
     refine then_n <| wp_reg ?_
     refine st_pr F8 (PR.op (ex_add rfl rfl) <| PR.op (ex_move rfl) <| PR.nil) fun q12 F12 => ?_
     refine st_end ?_
     obtain rfl := some_ok H
     refine then_n ?_
     exact ⟨_, rfl, v2, F12.sub ⟨rfl, rfl, rfl, rfl, trivial⟩, s5.drop⟩
   ·replace H := ite_f hb0 H
    refine wp_exit <| then_x <| then_x <| blk_hit ?_
    obtain rfl := some_ok H
    obtain rfl := hr _ rfl
    refine then_n ?_
    exact ⟨v2, F3.sub ⟨rfl, trivial⟩, s2⟩
 ·intro q13 w4 hJ
  obtain ⟨v1, F13, s7⟩ := hJ
  have H := R0
  clear R0 H0
  refine then_n <| wp_seq <| wp_reg ?_
  refine st_pr F13 (PR.op (ex_move rfl) <| PR.op (ex_asg rfl) <| PR.nil) fun q14 F14 => ?_
  refine st_end <| then_n ?_
  obtain rfl := some_ok H
  refine wp_ret ?_
  refine ret_gen (rs := [.tmp 2]) (vs := [v1]) F14 (by rfl) ⟨_, _, rfl, RV.tmp rfl, rfl⟩ ⟨_, rfl, ⟨v1, rfl, s7⟩⟩
end Go.Proofs.Ytmeodoidfpcjlaa
