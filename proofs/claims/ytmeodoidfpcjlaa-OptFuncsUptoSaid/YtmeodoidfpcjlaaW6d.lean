/- Walks, merged. -/
import Derived.Test.YtmeodoidfpcjlaaW6c
set_option linter.unusedVariables false
set_option linter.unusedSimpArgs false
namespace Go.Proofs.Ytmeodoidfpcjlaa
open Go Go.RowKit Go.Pv
-- The walk of proviso/provisoref04.Encode.
theorem provisoref04_Encode_c {w : World} {a0 : S_api_Instr} {r : (List UInt8) × Int}  (H : provisoref04_Encode a0 = some r) :
  Calls Try.prog 106 #[.agg ⟨[.int .i64 a0.At, .int .u8 (a0.Op.toNat : Int), .int .i64 a0.A, .int .i64 a0.B]⟩] w (Ret fun u_ w_ => ∃ u0 : Value, u_ = .tuple ⟨[u0, .int .i64 r.2]⟩ ∧ SL w [] w_ [Sl Ty.u8 u0 r.1]) := by
 have s0 : SL w [] w [] := SL.init0 w
 refine call_enter Try.func106 rfl Try.ntmps106 (Nat.le_of_ble_eq_true rfl) (args := [.agg ⟨[.int .i64 a0.At, .int .u8 (a0.Op.toNat : Int), .int .i64 a0.A, .int .i64 a0.B]⟩]) fun q0 F0 => ?_
 unfold provisoref04_Encode at H
 refine wp_seq <| wp_reg ?_
 refine st_box F0 s0 rfl rfl rfl fun g9 w10 q11 F12 s13 => ?_
 refine st_pr F12 (PR.op (ex_asg rfl) <| PR.op (ex_asg rfl) <| PR.nil) fun q15 F16 => ?_
 refine st_end <| then_n <| wp_seq <| wp_reg ?_
 refine st_pr F16 (PR.op (ex_fab Fx.fa90_1 rfl rfl) <| PR.op (ex_ld Fx.nag5 rfl (s13.blk_cell (.head _) rfl)) <| PR.op (ex_asg rfl) <| PR.nil) fun q19 F20 => ?_
 refine st_end <| then_n <| wp_seq <| wp_seq <| wp_reg ?_
 obtain ⟨x65, hx66, H⟩ := bind_ok H
 refine st_pr F20 (PR.op (ex_move rfl) <| PR.nil) fun q67 F68 => ?_
 refine st_call (args := [.tmp 10]) F68 Fx.fn51 rfl (provisoref04_Size_c (a0 := a0.Op)   hx66) rfl fun v69 w70 q71 hS73 F72 => ?_
 obtain ⟨rfl, hq75⟩ := hS73
 have s74 := s13.add hq75
 refine st_pr F72 (PR.op (ex_eq rfl rfl) <| PR.nil) fun q76 F77 => ?_
 refine st_end <| then_n ?_
 refine wp_if F77 rfl (fun hb78 => ?_) (fun hb78 => ?_)
 ·replace H := ite_t hb78 H
  refine wp_seq <| wp_reg ?_
  refine st_pr F77 (PR.op (ex_asg rfl) <| PR.op (ex_asg rfl) <| PR.nil) fun q81 F82 => ?_
  refine st_end <| then_n ?_
  obtain rfl := some_ok H
  refine wp_ret ?_
  refine then_r ?_
  refine ret_gen (rs := [.tmp 2, .tmp 3]) (vs := [.slice none 0 0, .int .i64 40]) F82 (by rfl) ⟨_, _, rfl, RV.tmp rfl, _, _, rfl, RV.tmp rfl, rfl⟩ ⟨_, rfl, ⟨(.slice none 0 0), rfl, (SL.nilSl (T := Ty.u8) s74).f1.drop⟩⟩
 ·replace H := ite_f hb78 H
  refine wp_skip <| then_n <| wp_seq <| wp_reg ?_
  obtain ⟨x96, hx97, H⟩ := bind_ok H
  refine st_pr F77 (PR.op (ex_move rfl) <| PR.nil) fun q98 F99 => ?_
  refine st_call (args := [.tmp 14]) F99 Fx.fn69 rfl (provisoref04_wide_c (a0 := a0.Op)   hx97) rfl fun v0 w0 q1 hS0 F1 => ?_
  obtain ⟨rfl, hq0⟩ := hS0
  have s1 := s74.add hq0
  refine st_pr F1 (PR.op (ex_move rfl) <| PR.op (ex_extract (v := .int .i64 x96.1) rfl rfl) <| PR.op (ex_extract (v := .int .i64 x96.2) rfl rfl) <| PR.op (ex_asg rfl) <| PR.op (ex_asg rfl) <| PR.nil) fun q2 F2 => ?_
  refine st_end <| then_n <| wp_seq <| wp_seq <| wp_reg ?_
  obtain ⟨x0, hx0, H⟩ := bind_ok H
  refine st_pr F2 (PR.op (ex_fab Fx.fa90_2 rfl rfl) <| PR.op (ex_ld Fx.nag3 rfl (s1.blk_cell (.head _) rfl)) <| PR.op (ex_move rfl) <| PR.nil) fun q3 F3 => ?_
  refine st_call (args := [.tmp 19, .tmp 20]) F3 Fx.fn119 rfl (provisoref04_fits_c (a0 := a0.A) (a1 := x96.1)   hx0) rfl fun v1 w1 q4 hS1 F4 => ?_
  obtain ⟨rfl, hq1⟩ := hS1
  have s2 := s1.add hq1
  refine st_pr F4 (PR.op (ex_not rfl) <| PR.op (ex_move rfl) <| PR.nil) fun q5 F5 => ?_
  refine bool_split (!x0) (fun hb0 => ?_) (fun hb0 => ?_)
  ·replace H := ite_t hb0 H
   refine st_gskip F5 rfl rfl (look_b rfl hb0) Bool.noConfusion rfl rfl fun q6 F6 => ?_
   refine st_gskip F6 rfl rfl (look_b rfl hb0) Bool.noConfusion rfl rfl fun q7 F7 => ?_
   refine st_gskip F7 rfl rfl (look_b rfl hb0) Bool.noConfusion rfl rfl fun q8 F8 => ?_
   refine st_gskip F8 rfl rfl (look_b rfl hb0) Bool.noConfusion rfl rfl fun q9 F9 => ?_
   refine st_gskip F9 rfl rfl (look_b rfl hb0) Bool.noConfusion rfl rfl fun q10 F10 => ?_
   refine st_pr F10 (PR.op (ex_pick_t (ev_b rfl hb0) rfl) <| PR.op (ex_move rfl) <| PR.nil) fun q12 F11 => ?_
   refine st_gskip F11 rfl rfl rfl Bool.noConfusion rfl rfl fun q13 F13 => ?_
   refine st_gskip F13 rfl rfl rfl Bool.noConfusion rfl rfl fun q14 F14 => ?_
   refine st_gskip F14 rfl rfl rfl Bool.noConfusion rfl rfl fun q16 F15 => ?_
   refine st_gskip' F15 rfl rfl rfl rfl rfl fun q17 F17 => ?_
   refine st_gskip' F17 rfl rfl rfl rfl rfl fun q18 F18 => ?_
   refine st_gskip' F18 rfl rfl rfl rfl rfl fun q20 F19 => ?_
   refine st_gskip F19 rfl rfl rfl Bool.noConfusion rfl rfl fun q21 F21 => ?_
   refine st_pr F21 (PR.op (ex_pick_t rfl rfl) <| PR.nil) fun q22 F22 => ?_
   refine st_end <| then_n ?_
   refine wp_if_t F22 rfl ?_
   refine wp_seq <| wp_reg ?_
   refine st_pr F22 (PR.op (ex_asg rfl) <| PR.op (ex_asg rfl) <| PR.nil) fun q23 F23 => ?_
   refine st_end <| then_n ?_
   obtain rfl := some_ok H
   refine wp_ret ?_
   refine then_r ?_
   refine ret_gen (rs := [.tmp 2, .tmp 3]) (vs := [.slice none 0 0, .int .i64 5]) F23 (by rfl) ⟨_, _, rfl, RV.tmp rfl, _, _, rfl, RV.tmp rfl, rfl⟩ ⟨_, rfl, ⟨(.slice none 0 0), rfl, (SL.nilSl (T := Ty.u8) s2).f1.drop⟩⟩
  ·replace H := ite_f hb0 H
   refine st_gop F5 rfl rfl (look_b rfl hb0) (ex_fab Fx.fa90_3 rfl rfl) rfl rfl fun q24 F24 => ?_
   refine st_gop F24 rfl rfl (look_b rfl hb0) (ex_ld Fx.nag3 rfl (s2.blk_cell (.head _) rfl)) rfl rfl fun q25 F25 => ?_
   refine st_gop F25 rfl rfl (look_b rfl hb0) (ex_move rfl) rfl rfl fun q26 F26 => ?_
   obtain ⟨x1, hx1, H⟩ := bind_ok H
   refine st_ungd F26 rfl (look_b rfl hb0) ?_
   refine st_call (args := [.tmp 25, .tmp 26]) F26 Fx.fn119 rfl (provisoref04_fits_c (a0 := a0.B) (a1 := x96.2)   hx1) rfl fun v2 w2 q27 hS2 F27 => ?_
   obtain ⟨rfl, hq2⟩ := hS2
   have s3 := s2.add hq2
   refine st_gop F27 rfl rfl (look_b rfl hb0) (ex_not rfl) rfl rfl fun q28 F28 => ?_
   refine st_pr F28 (PR.op (ex_pick_f (ev_b rfl hb0) rfl) <| PR.op (ex_move rfl) <| PR.nil) fun q29 F29 => ?_
   refine bool_split (!x1) (fun hb1 => ?_) (fun hb1 => ?_)
   ·replace H := ite_t hb1 H
    refine st_gskip F29 rfl rfl (look_b rfl hb1) Bool.noConfusion rfl rfl fun q30 F30 => ?_
    refine st_gskip F30 rfl rfl (look_b rfl hb1) Bool.noConfusion rfl rfl fun q31 F31 => ?_
    refine st_gskip F31 rfl rfl (look_b rfl hb1) Bool.noConfusion rfl rfl fun q32 F32 => ?_
    refine st_gskip' F32 rfl rfl rfl rfl rfl fun q33 F33 => ?_
    refine st_gskip' F33 rfl rfl rfl rfl rfl fun q34 F34 => ?_
    refine st_gskip' F34 rfl rfl rfl rfl rfl fun q35 F35 => ?_
    refine st_gskip F35 rfl rfl (look_b rfl hb1) Bool.noConfusion rfl rfl fun q36 F36 => ?_
    refine st_pr F36 (PR.op (ex_pick_t (ev_b rfl hb1) rfl) <| PR.nil) fun q37 F37 => ?_
    refine st_end <| then_n ?_
    refine wp_if_t F37 rfl ?_
    refine wp_seq <| wp_reg ?_
    refine st_pr F37 (PR.op (ex_asg rfl) <| PR.op (ex_asg rfl) <| PR.nil) fun q38 F38 => ?_
    refine st_end <| then_n ?_
    obtain rfl := some_ok H
    refine wp_ret ?_
    refine then_r ?_
    refine ret_gen (rs := [.tmp 2, .tmp 3]) (vs := [.slice none 0 0, .int .i64 5]) F38 (by rfl) ⟨_, _, rfl, RV.tmp rfl, _, _, rfl, RV.tmp rfl, rfl⟩ ⟨_, rfl, ⟨(.slice none 0 0), rfl, (SL.nilSl (T := Ty.u8) s3).f1.drop⟩⟩
   ·replace H := ite_f hb1 H
    refine st_gop F29 rfl rfl (look_b rfl hb1) (ex_move rfl) rfl rfl fun q39 F39 => ?_
    refine st_gop F39 rfl rfl (look_b rfl hb1) (ex_eq rfl rfl) rfl rfl fun q40 F40 => ?_
    refine st_gop F40 rfl rfl (look_b rfl hb1) (ex_move rfl) rfl rfl fun q41 F41 => ?_
    refine bool_split ((a0.Op.toNat : Int) == 2) (fun hb2 => ?_) (fun hb2 => ?_)
    ·replace H := ite_t hb2 H
     refine st_gop F41 rfl rfl (look_b rfl hb2) (ex_fab Fx.fa90_2 rfl rfl) rfl rfl fun q42 F42 => ?_
     refine st_gop F42 rfl rfl (look_b rfl hb2) (ex_ld Fx.nag3 rfl (s3.blk_cell (.head _) rfl)) rfl rfl fun q43 F43 => ?_
     refine st_gop F43 rfl rfl (look_b rfl hb2) (ex_gt rfl rfl) rfl rfl fun q44 F44 => ?_
     refine st_gop F44 rfl rfl (look_b rfl hb1) (ex_pick_t (ev_b rfl hb2) rfl) rfl rfl fun q45 F45 => ?_
     refine st_pr F45 (PR.op (ex_pick_f (ev_b rfl hb1) rfl) <| PR.nil) fun q46 F46 => ?_
     refine st_end <| then_n ?_
     refine wp_if F46 rfl (fun hb3 => ?_) (fun hb3 => ?_)
     ·replace H := ite_t hb3 H
      refine wp_seq <| wp_reg ?_
      refine st_pr F46 (PR.op (ex_asg rfl) <| PR.op (ex_asg rfl) <| PR.nil) fun q47 F47 => ?_
      refine st_end <| then_n ?_
      obtain rfl := some_ok H
      refine wp_ret ?_
      refine then_r ?_
      refine ret_gen (rs := [.tmp 2, .tmp 3]) (vs := [.slice none 0 0, .int .i64 5]) F47 (by rfl) ⟨_, _, rfl, RV.tmp rfl, _, _, rfl, RV.tmp rfl, rfl⟩ ⟨_, rfl, ⟨(.slice none 0 0), rfl, (SL.nilSl (T := Ty.u8) s3).f1.drop⟩⟩
     ·replace H := ite_f hb3 H
      refine wp_skip <| then_n <| wp_seq <| wp_reg ?_
      refine st_pr F46 (PR.op (ex_fab Fx.fa90_1 rfl rfl) <| PR.op (ex_ld Fx.nag5 rfl (s3.blk_cell (.head _) rfl)) <| PR.nil) fun q48 F48 => ?_
      refine st_bslice (parts := [(0, .tmp 40)]) Flat.u8 ([a0.Op] : List UInt8) F48 s3 Fx.sl22 rfl (by decide) rfl rfl rfl (by simp [Value.cells]) rfl rfl rfl fun v3 w3 q49 F49 s4 => ?_
      refine st_pr F49 (PR.op (ex_asg rfl) <| PR.nil) fun q50 F50 => ?_
      refine st_end <| then_n <| wp_seq <| wp_reg ?_
      obtain ⟨x2, hx2, H⟩ := bind_ok H
      refine st_pr F50 (PR.op (ex_move rfl) <| PR.op (ex_fab Fx.fa90_2 rfl rfl) <| PR.op (ex_ld Fx.nag3 rfl (s4.blk_cell (.tail _ <| .head _) rfl)) <| PR.op (ex_move rfl) <| PR.nil) fun q51 F51 => ?_
      have s5 := s4
      obtain ⟨G0, hs0, hF0, hG0, hc0⟩ := SL.open_ (ps := [Sl Ty.u8 v3 ([a0.Op] : List UInt8)]) (rest := [Blk g9 90 [.int .i64 a0.At, .int .u8 (a0.Op.toNat : Int), .int .i64 a0.A, .int .i64 a0.B]]) s5
      refine st_call (args := [.tmp 42, .tmp 44, .tmp 45]) F51 Fx.fn120 rfl (provisoref04_put_c (a0 := ([a0.Op] : List UInt8)) (a1 := a0.A) (a2 := x96.1) hs0  hx2) rfl fun v4 w4 q52 hS3 F52 => ?_
      obtain ⟨_, rfl, hq3⟩ := hS3
      have s6 := hc0 _ _ hq3
      refine st_pr F52 (PR.op (ex_asg rfl) <| PR.nil) fun q53 F53 => ?_
      refine st_end <| then_n <| wp_seq <| wp_reg ?_
      obtain ⟨x3, hx3, H⟩ := bind_ok H
      refine st_pr F53 (PR.op (ex_move rfl) <| PR.op (ex_fab Fx.fa90_3 rfl rfl) <| PR.op (ex_ld Fx.nag3 rfl (s6.blk_cell (.tail _ <| .head _) rfl)) <| PR.op (ex_move rfl) <| PR.nil) fun q54 F54 => ?_
      have s7 := s6
      obtain ⟨G1, hs1, hF1, hG1, hc1⟩ := SL.open_ (ps := [Sl Ty.u8 v4 x2]) (rest := [Blk g9 90 [.int .i64 a0.At, .int .u8 (a0.Op.toNat : Int), .int .i64 a0.A, .int .i64 a0.B]]) s7
      refine st_call (args := [.tmp 47, .tmp 49, .tmp 50]) F54 Fx.fn120 rfl (provisoref04_put_c (a0 := x2) (a1 := a0.B) (a2 := x96.2) hs1  hx3) rfl fun v5 w5 q55 hS4 F55 => ?_
      obtain ⟨_, rfl, hq4⟩ := hS4
      have s8 := hc1 _ _ hq4
      refine st_pr F55 (PR.op (ex_asg rfl) <| PR.op (ex_asg rfl) <| PR.nil) fun q56 F56 => ?_
      refine st_end <| then_n ?_
      obtain rfl := some_ok H
      refine wp_ret ?_
      refine ret_gen (rs := [.tmp 2, .tmp 3]) (vs := [v5, .int .i64 0]) F56 (by rfl) ⟨_, _, rfl, RV.tmp rfl, _, _, rfl, RV.tmp rfl, rfl⟩ ⟨_, rfl, ⟨v5, rfl, s8.f1.drop⟩⟩
    ·replace H := ite_f hb2 H
     refine st_gskip F41 rfl rfl (look_b rfl hb2) Bool.noConfusion rfl rfl fun q57 F57 => ?_
     refine st_gskip F57 rfl rfl (look_b rfl hb2) Bool.noConfusion rfl rfl fun q58 F58 => ?_
     refine st_gskip F58 rfl rfl (look_b rfl hb2) Bool.noConfusion rfl rfl fun q59 F59 => ?_
     refine st_gop F59 rfl rfl (look_b rfl hb1) (ex_pick_f (ev_b rfl hb2) rfl) rfl rfl fun q60 F60 => ?_
     refine st_pr F60 (PR.op (ex_pick_f (ev_b rfl hb1) rfl) <| PR.nil) fun q61 F61 => ?_
     refine st_end <| then_n ?_
     refine wp_if_f F61 rfl ?_
     refine wp_skip <| then_n <| wp_seq <| wp_reg ?_
     refine st_pr F61 (PR.op (ex_fab Fx.fa90_1 rfl rfl) <| PR.op (ex_ld Fx.nag5 rfl (s3.blk_cell (.head _) rfl)) <| PR.nil) fun q62 F62 => ?_
     refine st_bslice (parts := [(0, .tmp 40)]) Flat.u8 ([a0.Op] : List UInt8) F62 s3 Fx.sl22 rfl (by decide) rfl rfl rfl (by simp [Value.cells]) rfl rfl rfl fun v6 w6 q63 F63 s9 => ?_
     refine st_pr F63 (PR.op (ex_asg rfl) <| PR.nil) fun q64 F64 => ?_
     refine st_end <| then_n <| wp_seq <| wp_reg ?_
     obtain ⟨x4, hx4, H⟩ := bind_ok H
     refine st_pr F64 (PR.op (ex_move rfl) <| PR.op (ex_fab Fx.fa90_2 rfl rfl) <| PR.op (ex_ld Fx.nag3 rfl (s9.blk_cell (.tail _ <| .head _) rfl)) <| PR.op (ex_move rfl) <| PR.nil) fun q65 F65 => ?_
     have s10 := s9
     obtain ⟨G2, hs2, hF2, hG2, hc2⟩ := SL.open_ (ps := [Sl Ty.u8 v6 ([a0.Op] : List UInt8)]) (rest := [Blk g9 90 [.int .i64 a0.At, .int .u8 (a0.Op.toNat : Int), .int .i64 a0.A, .int .i64 a0.B]]) s10
     refine st_call (args := [.tmp 42, .tmp 44, .tmp 45]) F65 Fx.fn120 rfl (provisoref04_put_c (a0 := ([a0.Op] : List UInt8)) (a1 := a0.A) (a2 := x96.1) hs2  hx4) rfl fun v7 w7 q66 hS5 F66 => ?_
     obtain ⟨_, rfl, hq5⟩ := hS5
     have s11 := hc2 _ _ hq5
     refine st_pr F66 (PR.op (ex_asg rfl) <| PR.nil) fun q68 F67 => ?_
     refine st_end <| then_n <| wp_seq <| wp_reg ?_
     obtain ⟨x5, hx5, H⟩ := bind_ok H
     refine st_pr F67 (PR.op (ex_move rfl) <| PR.op (ex_fab Fx.fa90_3 rfl rfl) <| PR.op (ex_ld Fx.nag3 rfl (s11.blk_cell (.tail _ <| .head _) rfl)) <| PR.op (ex_move rfl) <| PR.nil) fun q69 F69 => ?_
     have s12 := s11
     obtain ⟨G3, hs3, hF3, hG3, hc3⟩ := SL.open_ (ps := [Sl Ty.u8 v7 x4]) (rest := [Blk g9 90 [.int .i64 a0.At, .int .u8 (a0.Op.toNat : Int), .int .i64 a0.A, .int .i64 a0.B]]) s12
     refine st_call (args := [.tmp 47, .tmp 49, .tmp 50]) F69 Fx.fn120 rfl (provisoref04_put_c (a0 := x4) (a1 := a0.B) (a2 := x96.2) hs3  hx5) rfl fun v8 w8 q70 hS6 F70 => ?_
     obtain ⟨_, rfl, hq6⟩ := hS6
     have s14 := hc3 _ _ hq6
     refine st_pr F70 (PR.op (ex_asg rfl) <| PR.op (ex_asg rfl) <| PR.nil) fun q72 F71 => ?_
     refine st_end <| then_n ?_
     obtain rfl := some_ok H
     refine wp_ret ?_
     refine ret_gen (rs := [.tmp 2, .tmp 3]) (vs := [v8, .int .i64 0]) F71 (by rfl) ⟨_, _, rfl, RV.tmp rfl, _, _, rfl, RV.tmp rfl, rfl⟩ ⟨_, rfl, ⟨v8, rfl, s14.f1.drop⟩⟩
-- The walk of proviso/provisoref19.write.
theorem provisoref19_write_c {w : World} {v0 : Value} {a0 : List S_provisoref19_ins} {r : (List UInt8)} (hr0 : Rd T_provisoref19_ins w [] v0 a0) (H : provisoref19_write a0 = some r) :
  Calls Try.prog 80 #[v0] w (Ret fun u_ w_ => ∃ u0 : Value, u_ = u0 ∧ SL w [] w_ [Sl Ty.u8 u0 r]) := by
 have s0 : SL w [] w [] := SL.init0 w
 refine call_enter Try.func80 rfl Try.ntmps80 (Nat.le_of_ble_eq_true rfl) (args := [v0]) fun q0 F0 => ?_
 unfold provisoref19_write at H
 refine wp_seq <| wp_reg ?_
 refine st_pr F0 (PR.op (ex_asg rfl) <| PR.nil) fun q3 F4 => ?_
 refine st_end <| then_n <| wp_seq <| wp_reg ?_
 refine st_pr F4 (PR.op (ex_asg rfl) <| PR.nil) fun q7 F8 => ?_
 refine st_end <| then_n <| wp_seq <| wp_reg ?_
 refine st_pr F8 (PR.op (ex_asg rfl) <| PR.nil) fun q11 F12 => ?_
 refine st_end <| then_n <| wp_seq <| wp_seq <| wp_reg ?_
 refine st_pr F12 (PR.op (ex_move rfl) <| PR.op (ex_len rfl Try.underlying126 (formL (rdL hr0 s0))) <| PR.op (ex_move rfl) <| PR.nil) fun q1 F1 => ?_
 refine st_end <| then_n ?_
 obtain ⟨o0, H0, R0⟩ := bind_ok H
 clear H
 refine wp_cutn (fun a w_ => ∃ v1 : Value, Fr a 61 [(0, v0), (3, v1)] ∧ SL w [] w_ [Sl (Ty.int .i64) v1 o0]) ?_ ?_
 ·have H := H0
  refine wp_block ?_
  refine wp_lp (provisoref19_write_b0 a0) (fun s1 a w_ => ∃ v2 : Value, Fr a 61 [(0, v0), (3, v2), (4, .int .i64 s1.2.1), (13, v0), (14, .int .i64 (a0.length : Int)), (15, .int .i64 s1.2.2)] ∧ SL w [] w_ [Sl (Ty.int .i64) v2 s1.1]) H ?_ ?_
  ·exact ⟨(.slice none 0 0), F1.sub ⟨rfl, rfl, rfl, rfl, rfl, rfl, trivial⟩, (SL.nilSl (T := (Ty.int .i64)) s0)⟩
  ·intro s1 q2 w0 hI0 o1 H hr
   obtain ⟨v2, F2, s2⟩ := hI0
   replace H : provisoref19_write_b0 a0 s1 = some o1 := H
   unfold provisoref19_write_b0 at H
   refine wp_seq <| wp_reg ?_
   refine st_pr F2 (PR.op (ex_lt rfl rfl) <| PR.nil) fun q4 F3 => ?_
   refine st_end <| then_n <| wp_seq ?_
   refine wp_if F3 rfl (fun hb0 => ?_) (fun hb0 => ?_)
   ·replace H := ite_t hb0 H
    refine wp_skip <| then_n <| wp_seq <| wp_block <| wp_seq <| wp_reg ?_
    obtain ⟨x0, hx0, H⟩ := bind_ok H
    obtain ⟨a1, hi0, hc0⟩ := idxL F_provisoref19_ins (rdL hr0 s2) Fx.sl126 rfl hx0
    refine st_pr F3 (PR.op (hi0 _ _ _ _ _ _ _ _ _ _ rfl rfl) <| PR.op (ex_ldagg Fx.agg156 rfl hc0 rfl) <| PR.nil) fun q5 F5 => ?_
    refine st_alloc F5 s2 Fx.zero156 rfl rfl fun g0 w1 q6 F6 s3 => ?_
    have s4 := s3
    refine st_storea F6 s4 rfl rfl Fx.sz156 (one_cons rfl (one_cons rfl (one_cons rfl (one_cons rfl one_nil)))) (Nat.le_of_ble_eq_true rfl) fun w2 q8 F7 s5 => ?_
    replace s5 : SL w [] w2 [Blk g0 156 [.int .u8 (x0.op.toNat : Int), .int .i64 x0.a, .int .i64 x0.b, .int .i64 x0.to], Sl (Ty.int .i64) v2 s1.1] := s5
    refine st_end <| then_n <| wp_seq <| wp_reg ?_
    refine st_pr F7 (PR.op (ex_move rfl) <| PR.op (ex_move rfl) <| PR.nil) fun q9 F9 => ?_
    refine st_bslice (parts := [(0, .tmp 20)]) (Flat.int .i64) ([s1.2.1] : List Int) F9 s5 Fx.sl57 rfl (by decide) rfl rfl rfl (by simp [Value.cells]) rfl rfl rfl fun v3 w3 q10 F10 s6 => ?_
    obtain ⟨x1, hx1, H⟩ := bind_ok H
    have s7 := s6.f2
    obtain ⟨_, hr_⟩ := (s7.own_rd (.tail _ <| .head _))
    refine st_append_rd (Flat.int .i64) F10 s7 Fx.sl57 rfl rfl rfl rfl hr_ rfl rfl hx1 rfl fun v4 w4 q12 F11 s8 => ?_
    have s4414' := s8.f1.drop
    refine st_pr F11 (PR.op (ex_asg rfl) <| PR.nil) fun q13 F13 => ?_
    refine st_end <| then_n <| wp_reg ?_
    obtain ⟨x2, hx2, H⟩ := bind_ok H
    refine st_pr F13 (PR.op (ex_move rfl) <| PR.op (ex_fab Fx.fa156_0 rfl rfl) <| PR.op (ex_ld Fx.nag5 rfl (s4414'.blk_cell (.tail _ <| .head _) rfl)) <| PR.nil) fun q14 F14 => ?_
    refine st_call (args := [.tmp 25]) F14 Fx.fn51 rfl (provisoref04_Size_c (a0 := x0.op)   hx2) rfl fun v5 w5 q15 hS0 F15 => ?_
    obtain ⟨rfl, hq0⟩ := hS0
    have s9 := s4414'.add hq0
    refine st_pr F15 (PR.op (ex_add rfl rfl) <| PR.op (ex_asg rfl) <| PR.nil) fun q16 F16 => ?_
    refine st_end ?_
    refine blk_n ?_
    refine then_n <| wp_reg ?_
    refine st_pr F16 (PR.op (ex_add rfl rfl) <| PR.op (ex_move rfl) <| PR.nil) fun q17 F17 => ?_
    refine st_end ?_
    obtain rfl := some_ok H
    refine then_n ?_
    exact ⟨_, rfl, v4, F17.sub ⟨rfl, rfl, rfl, rfl, rfl, rfl, trivial⟩, s9.f1.drop⟩
   ·replace H := ite_f hb0 H
    refine wp_exit <| then_x <| then_x <| blk_hit ?_
    obtain rfl := some_ok H
    obtain rfl := hr _ rfl
    refine then_n ?_
    exact ⟨v2, F3.sub ⟨rfl, rfl, trivial⟩, s2⟩
 ·intro q18 w6 hJ
  obtain ⟨v1, F18, s10⟩ := hJ
  have H := R0
  clear R0 H0
  refine then_n <| wp_seq <| wp_reg ?_
  refine st_pr F18 (PR.op (ex_asg rfl) <| PR.nil) fun q19 F19 => ?_
  refine st_end <| then_n <| wp_seq <| wp_seq <| wp_reg ?_
  refine st_pr F19 (PR.op (ex_move rfl) <| PR.op (ex_len rfl Try.underlying126 (formL (rdL hr0 s10))) <| PR.op (ex_move rfl) <| PR.nil) fun q20 F20 => ?_
  refine st_end <| then_n ?_
  obtain ⟨o2, H1, R1⟩ := bind_ok H
  clear H
  refine wp_cutn (fun a w_ => ∃ v6 : Value, Fr a 61 [(7, v6)] ∧ SL w [] w_ [Sl Ty.u8 v6 o2]) ?_ ?_
  ·have H := H1
   refine wp_block ?_
   refine wp_lp (provisoref19_write_b1 a0 o0) (fun s11 a w_ => ∃ v7 : Value, Fr a 61 [(3, v1), (7, v7), (29, v0), (30, .int .i64 (a0.length : Int)), (31, .int .i64 s11.2)] ∧ SL w [] w_ [Sl (Ty.int .i64) v1 o0, Sl Ty.u8 v7 s11.1]) H ?_ ?_
   ·exact ⟨(.slice none 0 0), F20.sub ⟨rfl, rfl, rfl, rfl, rfl, trivial⟩, (SL.nilSl (T := Ty.u8) s10).f1⟩
   ·intro s11 q21 w7 hI1 o3 H hr
    obtain ⟨v7, F21, s12⟩ := hI1
    replace H : provisoref19_write_b1 a0 o0 s11 = some o3 := H
    unfold provisoref19_write_b1 at H
    refine wp_seq <| wp_reg ?_
    refine st_pr F21 (PR.op (ex_lt rfl rfl) <| PR.nil) fun q22 F22 => ?_
    refine st_end <| then_n <| wp_seq ?_
    refine wp_if F22 rfl (fun hb1 => ?_) (fun hb1 => ?_)
    ·replace H := ite_t hb1 H
     refine wp_skip <| then_n <| wp_seq <| wp_block <| wp_seq <| wp_reg ?_
     obtain ⟨x3, hx3, H⟩ := bind_ok H
     obtain ⟨a2, hi1, hc1⟩ := idxL F_provisoref19_ins (rdL hr0 s12) Fx.sl126 rfl hx3
     refine st_pr F22 (PR.op (hi1 _ _ _ _ _ _ _ _ _ _ rfl rfl) <| PR.op (ex_ldagg Fx.agg156 rfl hc1 rfl) <| PR.nil) fun q23 F23 => ?_
     refine st_alloc F23 s12 Fx.zero156 rfl rfl fun g1 w8 q24 F24 s13 => ?_
     have s14 := s13
     refine st_storea F24 s14 rfl rfl Fx.sz156 (one_cons rfl (one_cons rfl (one_cons rfl (one_cons rfl one_nil)))) (Nat.le_of_ble_eq_true rfl) fun w9 q25 F25 s15 => ?_
     replace s15 : SL w [] w9 [Blk g1 156 [.int .u8 (x3.op.toNat : Int), .int .i64 x3.a, .int .i64 x3.b, .int .i64 x3.to], Sl (Ty.int .i64) v1 o0, Sl Ty.u8 v7 s11.1] := s15
     refine st_end <| then_n <| wp_seq <| wp_reg ?_
     refine st_pr F25 (PR.op (ex_fab Fx.fa156_0 rfl rfl) <| PR.op (ex_ld Fx.nag5 rfl (s15.blk_cell (.head _) rfl)) <| PR.op (ex_fab Fx.fa156_1 rfl rfl) <| PR.op (ex_ld Fx.nag3 rfl (s15.blk_cell (.head _) rfl)) <| PR.op (ex_fab Fx.fa156_2 rfl rfl) <| PR.op (ex_ld Fx.nag3 rfl (s15.blk_cell (.head _) rfl)) <| PR.op (ex_build (vs := [.int .u8 (x3.op.toNat : Int), .int .i64 x3.a, .int .i64 x3.b]) Fx.zero90 Fx.pl90 rfl (cs := [.int .i64 0, .int .u8 (x3.op.toNat : Int), .int .i64 x3.a, .int .i64 x3.b]) (rfl)) <| PR.nil) fun q26 F26 => ?_
     refine st_alloc F26 s15 Fx.zero90 rfl rfl fun g2 w10 q27 F27 s16 => ?_
     have s17 := s16
     refine st_storea F27 s17 rfl rfl Fx.sz90 (one_cons rfl (one_cons rfl (one_cons rfl (one_cons rfl one_nil)))) (Nat.le_of_ble_eq_true rfl) fun w11 q28 F28 s18 => ?_
     replace s18 : SL w [] w11 [Blk g2 90 [.int .i64 0, .int .u8 (x3.op.toNat : Int), .int .i64 x3.a, .int .i64 x3.b], Blk g1 156 [.int .u8 (x3.op.toNat : Int), .int .i64 x3.a, .int .i64 x3.b, .int .i64 x3.to], Sl (Ty.int .i64) v1 o0, Sl Ty.u8 v7 s11.1] := s18
     refine st_end <| then_n <| wp_seq <| wp_seq <| wp_reg ?_
     refine st_pr F28 (PR.op (ex_fab Fx.fa156_3 rfl rfl) <| PR.op (ex_ld Fx.nag3 rfl (s18.blk_cell (.tail _ <| .head _) rfl)) <| PR.op (ex_ge rfl rfl) <| PR.nil) fun q29 F29 => ?_
     refine st_end <| then_n ?_
     refine wp_if F29 rfl (fun hb2 => ?_) (fun hb2 => ?_)
     ·replace H := ite_t hb2 H
      refine wp_reg ?_
      obtain ⟨x4, hx4, H⟩ := bind_ok H
      obtain ⟨a3, hi2, he0⟩ := own_idx (Flat.int .i64) s18 (.tail _ <| .tail _ <| .head _) Fx.sl57 rfl hx4
      refine st_pr F29 (PR.op (ex_move rfl) <| PR.op (ex_fab Fx.fa156_3 rfl rfl) <| PR.op (ex_ld Fx.nag3 rfl (s18.blk_cell (.tail _ <| .head _) rfl)) <| PR.op (hi2 _ _ _ _ _ _ _ _ _ _ rfl rfl) <| PR.op (ex_ld Fx.nag3 rfl (Cells.at_ (SL.elcells (Flat.int .i64) s18 (.tail _ <| .tail _ <| .head _) he0 hx4) (o := 0) rfl)) <| PR.op (ex_fab Fx.fa90_2 rfl rfl) <| PR.nil) fun q30 F30 => ?_
      have s19 := s18
      refine st_store F30 s19 rfl rfl Fx.sz3 rfl rfl rfl fun w12 q31 F31 s20 => ?_
      replace s20 : SL w [] w12 [Blk g2 90 [.int .i64 0, .int .u8 (x3.op.toNat : Int), .int .i64 x4, .int .i64 x3.b], Blk g1 156 [.int .u8 (x3.op.toNat : Int), .int .i64 x3.a, .int .i64 x3.b, .int .i64 x3.to], Sl (Ty.int .i64) v1 o0, Sl Ty.u8 v7 s11.1] := s20
      refine st_end <| then_n <| wp_seq <| wp_reg ?_
      obtain ⟨x5, hx5, H⟩ := bind_ok H
      refine st_pr F31 (PR.op (ex_ldagg Fx.agg90 rfl (s20.blk_cells (.head _) (o := 0) (ds := [.int .i64 0, .int .u8 (x3.op.toNat : Int), .int .i64 x4, .int .i64 x3.b]) (fun j u hu => by rw [Nat.zero_add]; exact hu)) rfl) <| PR.nil) fun q32 F32 => ?_
      refine st_call (args := [.tmp 52]) F32 Fx.fn106 rfl (provisoref04_Encode_c (a0 := (⟨0, x3.op, x4, x3.b⟩ : S_api_Instr))   hx5) rfl fun v8 w13 q33 hS1 F33 => ?_
      obtain ⟨v9, rfl, hq1⟩ := hS1
      have s21 := s20.add hq1
      refine st_pr F33 (PR.op (ex_move rfl) <| PR.op (ex_extract (v := v9) rfl rfl) <| PR.op (ex_extract (v := .int .i64 x5.2) rfl rfl) <| PR.op (ex_asg rfl) <| PR.op (ex_asg rfl) <| PR.nil) fun q34 F34 => ?_
      refine st_end <| then_n <| wp_reg ?_
      obtain ⟨x6, hx6, H⟩ := bind_ok H
      refine st_pr F34 (PR.op (ex_move rfl) <| PR.op (ex_move rfl) <| PR.nil) fun q35 F35 => ?_
      have s22 := s21.f4
      obtain ⟨_, hr_⟩ := (s22.own_rd (.tail _ <| .head _))
      refine st_append_rd Flat.u8 F35 s22 Fx.sl22 rfl rfl rfl rfl hr_ rfl rfl hx6 rfl fun v10 w14 q36 F36 s23 => ?_
      refine st_pr F36 (PR.op (ex_asg rfl) <| PR.nil) fun q37 F37 => ?_
      refine st_end ?_
      refine blk_n ?_
      refine then_n <| wp_reg ?_
      refine st_pr F37 (PR.op (ex_add rfl rfl) <| PR.op (ex_move rfl) <| PR.nil) fun q38 F38 => ?_
      refine st_end ?_
      obtain rfl := some_ok H
      refine then_n ?_
      exact ⟨_, rfl, v10, F38.sub ⟨rfl, rfl, rfl, rfl, rfl, trivial⟩, s23.f1.drop.f1.drop.f1.drop.f1⟩
     ·replace H := ite_f hb2 H
      refine wp_skip <| then_n <| wp_seq <| wp_reg ?_
      obtain ⟨x7, hx7, H⟩ := bind_ok H
      refine st_pr F29 (PR.op (ex_ldagg Fx.agg90 rfl (s18.blk_cells (.head _) (o := 0) (ds := [.int .i64 0, .int .u8 (x3.op.toNat : Int), .int .i64 x3.a, .int .i64 x3.b]) (fun j u hu => by rw [Nat.zero_add]; exact hu)) rfl) <| PR.nil) fun q39 F39 => ?_
      refine st_call (args := [.tmp 52]) F39 Fx.fn106 rfl (provisoref04_Encode_c (a0 := (⟨0, x3.op, x3.a, x3.b⟩ : S_api_Instr))   hx7) rfl fun v11 w15 q40 hS2 F40 => ?_
      obtain ⟨v12, rfl, hq2⟩ := hS2
      have s24 := s18.add hq2
      refine st_pr F40 (PR.op (ex_move rfl) <| PR.op (ex_extract (v := v12) rfl rfl) <| PR.op (ex_extract (v := .int .i64 x7.2) rfl rfl) <| PR.op (ex_asg rfl) <| PR.op (ex_asg rfl) <| PR.nil) fun q41 F41 => ?_
      refine st_end <| then_n <| wp_reg ?_
      obtain ⟨x8, hx8, H⟩ := bind_ok H
      refine st_pr F41 (PR.op (ex_move rfl) <| PR.op (ex_move rfl) <| PR.nil) fun q42 F42 => ?_
      have s25 := s24.f4
      obtain ⟨_, hr_⟩ := (s25.own_rd (.tail _ <| .head _))
      refine st_append_rd Flat.u8 F42 s25 Fx.sl22 rfl rfl rfl rfl hr_ rfl rfl hx8 rfl fun v13 w16 q43 F43 s26 => ?_
      refine st_pr F43 (PR.op (ex_asg rfl) <| PR.nil) fun q44 F44 => ?_
      refine st_end ?_
      refine blk_n ?_
      refine then_n <| wp_reg ?_
      refine st_pr F44 (PR.op (ex_add rfl rfl) <| PR.op (ex_move rfl) <| PR.nil) fun q45 F45 => ?_
      refine st_end ?_
      obtain rfl := some_ok H
      refine then_n ?_
      exact ⟨_, rfl, v13, F45.sub ⟨rfl, rfl, rfl, rfl, rfl, trivial⟩, s26.f1.drop.f1.drop.f1.drop.f1⟩
    ·replace H := ite_f hb1 H
     refine wp_exit <| then_x <| then_x <| blk_hit ?_
     obtain rfl := some_ok H
     obtain rfl := hr _ rfl
     refine then_n ?_
     exact ⟨v7, F22.sub ⟨rfl, trivial⟩, s12.drop⟩
  ·intro q46 w17 hJ
   obtain ⟨v6, F46, s27⟩ := hJ
   have H := R1
   clear R1 H1
   refine then_n <| wp_seq <| wp_reg ?_
   refine st_pr F46 (PR.op (ex_move rfl) <| PR.op (ex_asg rfl) <| PR.nil) fun q47 F47 => ?_
   refine st_end <| then_n ?_
   obtain rfl := some_ok H
   refine wp_ret ?_
   refine ret_gen (rs := [.tmp 2]) (vs := [v6]) F47 (by rfl) ⟨_, _, rfl, RV.tmp rfl, rfl⟩ ⟨_, rfl, ⟨v6, rfl, s27⟩⟩
-- The walk of proviso/provisoref19.Code.
theorem provisoref19_Code_c {w : World} {v0 : Value} {a0 : List UInt8} {r : (List UInt8) × Int} (hr0 : Rd Ty.u8 w [] v0 a0) (H : provisoref19_Code a0 = some r) :
  Calls Try.prog 57 #[v0] w (Ret fun u_ w_ => ∃ u0 : Value, u_ = .tuple ⟨[u0, .int .i64 r.2]⟩ ∧ SL w [] w_ [Sl Ty.u8 u0 r.1]) := by
 have s0 : SL w [] w [] := SL.init0 w
 refine call_enter Try.func57 rfl Try.ntmps57 (Nat.le_of_ble_eq_true rfl) (args := [v0]) fun q0 F0 => ?_
 unfold provisoref19_Code at H
 refine wp_seq <| wp_reg ?_
 refine st_pr F0 (PR.op (ex_asg rfl) <| PR.op (ex_asg rfl) <| PR.nil) fun q3 F4 => ?_
 refine st_end <| then_n <| wp_seq <| wp_seq <| wp_reg ?_
 obtain ⟨x53, hx54, H⟩ := bind_ok H
 refine st_pr F4 (PR.op (ex_move rfl) <| PR.nil) fun q55 F56 => ?_
 refine st_call (args := [.tmp 9]) F56 Fx.fn25 rfl (provisoref05_Check_c (a0 := a0)  (hr0.pass0 s0) hx54) rfl fun v57 w58 q59 hS61 F60 => ?_
 obtain ⟨rfl, hq63⟩ := hS61
 have s62 := s0.add hq63
 refine st_pr F60 (PR.op (ex_move rfl) <| PR.op (ex_extract (v := .int .i64 x53.1) rfl rfl) <| PR.op (ex_extract (v := .int .i64 x53.2) rfl rfl) <| PR.op (ex_asg rfl) <| PR.op (ex_asg rfl) <| PR.nil) fun q64 F65 => ?_
 refine st_end <| then_n <| wp_seq <| wp_reg ?_
 refine st_pr F65 (PR.op (ex_move rfl) <| PR.op (ex_ne rfl rfl) <| PR.nil) fun q68 F69 => ?_
 refine st_end <| then_n ?_
 refine wp_if F69 rfl (fun hb70 => ?_) (fun hb70 => ?_)
 ·replace H := ite_t hb70 H
  refine wp_seq <| wp_reg ?_
  refine st_pr F69 (PR.op (ex_move rfl) <| PR.op (ex_asg rfl) <| PR.op (ex_asg rfl) <| PR.nil) fun q73 F74 => ?_
  refine st_end <| then_n ?_
  obtain rfl := some_ok H
  refine wp_ret ?_
  refine then_r ?_
  refine ret_gen (rs := [.tmp 2, .tmp 3]) (vs := [.slice none 0 0, .int .i64 x53.2]) F74 (by rfl) ⟨_, _, rfl, RV.tmp rfl, _, _, rfl, RV.tmp rfl, rfl⟩ ⟨_, rfl, ⟨(.slice none 0 0), rfl, (SL.nilSl (T := Ty.u8) s62)⟩⟩
 ·replace H := ite_f hb70 H
  refine wp_skip <| then_n <| wp_seq <| wp_reg ?_
  obtain ⟨x90, hx91, H⟩ := bind_ok H
  refine st_pr F69 (PR.op (ex_move rfl) <| PR.nil) fun q92 F93 => ?_
  refine st_call (args := [.tmp 16]) F93 Fx.fn73 rfl (provisoref19_read_c (a0 := a0)  (hr0.pass0 s62) hx91) rfl fun v94 w95 q96 hS98 F97 => ?_
  obtain ⟨_, rfl, hq0⟩ := hS98
  have s99 := s62.add hq0
  refine st_pr F97 (PR.op (ex_asg rfl) <| PR.nil) fun q1 F1 => ?_
  refine st_end <| then_n ?_
  obtain ⟨o0, H0, R0⟩ := bind_ok H
  clear H
  refine wp_cutn (fun a w_ => False) ?_ (fun _ _ hJ => hJ.elim)
  have H := H0
  refine wp_block ?_
  refine wp_lp (provisoref19_Code_b0) (fun s1 a w_ => ∃ v1 : Value, Fr a 30 [(6, v1)] ∧ SL w [] w_ [Sl T_provisoref19_ins v1 s1]) H ?_ ?_
  ·exact ⟨v94, F1.sub ⟨rfl, trivial⟩, s99⟩
  ·intro s1 q2 w0 hI0 o1 H hr
   obtain ⟨v1, F2, s2⟩ := hI0
   replace H : provisoref19_Code_b0 s1 = some o1 := H
   unfold provisoref19_Code_b0 at H
   refine wp_block <| wp_seq <| wp_reg ?_
   obtain ⟨x0, hx0, H⟩ := bind_ok H
   refine st_pr F2 (PR.op (ex_move rfl) <| PR.nil) fun q4 F3 => ?_
   refine st_call (args := [.tmp 18]) F3 Fx.fn78 rfl (provisoref19_threads_c (a0 := s1)  (s2.rd0 (.head _)) hx0) rfl fun v2 w1 q5 hS0 F5 => ?_
   obtain ⟨_, rfl, hq1⟩ := hS0
   have s3 := s2.add hq1
   obtain ⟨x1, hx1, H⟩ := bind_ok H
   refine st_call (args := [.tmp 19]) F5 Fx.fn77 rfl (provisoref19_dead_c (a0 := x0)  (s3.rd0 (.head _)) hx1) rfl fun v3 w2 q6 hS1 F6 => ?_
   obtain ⟨_, rfl, hq2⟩ := hS1
   have s4 := s3.add hq2
   obtain ⟨x2, hx2, H⟩ := bind_ok H
   refine st_call (args := [.tmp 20]) F6 Fx.fn76 rfl (provisoref19_idle_c (a0 := x1)  (s4.rd0 (.head _)) hx2) rfl fun v4 w3 q7 hS2 F7 => ?_
   obtain ⟨_, rfl, hq3⟩ := hS2
   have s5 := s4.add hq3
   obtain ⟨x3, hx3, H⟩ := bind_ok H
   refine st_call (args := [.tmp 21]) F7 Fx.fn75 rfl (provisoref19_constants_c (a0 := x2)  (s5.rd0 (.head _)) hx3) rfl fun v5 w4 q8 hS3 F8 => ?_
   obtain ⟨_, rfl, hq4⟩ := hS3
   have s6 := s5.add hq4
   obtain ⟨x4, hx4, H⟩ := bind_ok H
   refine st_call (args := [.tmp 22]) F8 Fx.fn74 rfl (provisoref19_sure_c (a0 := x3)  (s6.rd0 (.head _)) hx4) rfl fun v6 w5 q9 hS4 F9 => ?_
   obtain ⟨_, rfl, hq5⟩ := hS4
   have s7 := s6.add hq5
   refine st_pr F9 (PR.op (ex_asg rfl) <| PR.nil) fun q10 F10 => ?_
   refine st_end <| then_n <| wp_seq <| wp_seq <| wp_reg ?_
   obtain ⟨x5, hx5, H⟩ := bind_ok H
   refine st_pr F10 (PR.op (ex_move rfl) <| PR.op (ex_move rfl) <| PR.nil) fun q11 F11 => ?_
   refine st_call (args := [.tmp 24, .tmp 25]) F11 Fx.fn79 rfl (provisoref19_same_c (a0 := s1) (a1 := x4)  (s7.rd0 (.tail _ <| .tail _ <| .tail _ <| .tail _ <| .tail _ <| .head _)) (s7.rd0 (.head _)) hx5) rfl fun v7 w6 q12 hS5 F12 => ?_
   obtain ⟨rfl, hq6⟩ := hS5
   have s8 := s7.add hq6
   refine st_end <| then_n ?_
   refine wp_if F12 rfl (fun hb0 => ?_) (fun hb0 => ?_)
   ·replace H := ite_t hb0 H
    refine wp_seq <| wp_reg ?_
    obtain ⟨x6, hx6, H⟩ := bind_ok H
    refine st_pr F12 (PR.op (ex_move rfl) <| PR.nil) fun q13 F13 => ?_
    refine st_call (args := [.tmp 27]) F13 Fx.fn80 rfl (provisoref19_write_c (a0 := s1)  (s8.rd0 (.tail _ <| .tail _ <| .tail _ <| .tail _ <| .tail _ <| .head _)) hx6) rfl fun v8 w7 q14 hS6 F14 => ?_
    obtain ⟨_, rfl, hq7⟩ := hS6
    have s9 := s8.add hq7
    refine st_pr F14 (PR.op (ex_asg rfl) <| PR.op (ex_asg rfl) <| PR.nil) fun q15 F15 => ?_
    refine st_end <| then_n ?_
    obtain rfl := some_ok H
    obtain rfl := hr _ rfl
    replace H := R0
    try dsimp only at H
    obtain rfl := some_ok H
    refine wp_ret ?_
    refine then_r <| blk_r <| then_r <| blk_r <| then_r ?_
    refine ret_gen (rs := [.tmp 2, .tmp 3]) (vs := [v8, .int .i64 0]) F15 (by rfl) ⟨_, _, rfl, RV.tmp rfl, _, _, rfl, RV.tmp rfl, rfl⟩ ⟨_, rfl, ⟨v8, rfl, s9.f1.drop.f1.drop.f1.drop.f1.drop.f1.drop.f1.drop⟩⟩
   ·replace H := ite_f hb0 H
    refine wp_skip <| then_n <| wp_reg ?_
    refine st_pr F12 (PR.op (ex_move rfl) <| PR.op (ex_asg rfl) <| PR.nil) fun q16 F16 => ?_
    refine st_end ?_
    refine blk_n ?_
    obtain rfl := some_ok H
    refine then_n ?_
    exact ⟨_, rfl, v6, F16.sub ⟨rfl, trivial⟩, s8.f1.drop.f1.drop.f1.drop.f1.drop.f1.drop⟩
-- The walk of proviso/provisoref19.Func.
theorem provisoref19_Func_c {w : World} {v0_1 v0_4 : Value} {a0 : S_api_Func} {r : S_api_Func × Int} (hr0_1 : Rd Ty.u8 w [] v0_1 a0.Sig.Params) (hr0_4 : Rd Ty.u8 w [] v0_4 a0.Code) (H : provisoref19_Func a0 = some r) :
  Calls Try.prog 29 #[.agg ⟨[.string ⟨⟨a0.Name⟩⟩, v0_1, .int .u8 (a0.Sig.Result.toNat : Int), .int .i64 a0.Locals, v0_4]⟩] w (Ret fun u_ w_ => ∃ u0 u1 : Value, u_ = .tuple ⟨[.agg ⟨[.string ⟨⟨r.1.Name⟩⟩, u0, .int .u8 (r.1.Sig.Result.toNat : Int), .int .i64 r.1.Locals, u1]⟩, .int .i64 r.2]⟩ ∧ View Ty.u8 v0_1 a0.Sig.Params u0 r.1.Sig.Params ∧ SL w [] w_ [Sl Ty.u8 u1 r.1.Code]) := by
 have s0 : SL w [] w [] := SL.init0 w
 refine call_enter Try.func29 rfl Try.ntmps29 (Nat.le_of_ble_eq_true rfl) (args := [.agg ⟨[.string ⟨⟨a0.Name⟩⟩, v0_1, .int .u8 (a0.Sig.Result.toNat : Int), .int .i64 a0.Locals, v0_4]⟩]) fun q0 F0 => ?_
 unfold provisoref19_Func at H
 refine wp_seq <| wp_reg ?_
 refine st_box F0 s0 rfl rfl rfl fun g15 w16 q17 F18 s19 => ?_
 refine st_alloc F18 s19 Fx.zero56 rfl rfl fun g21 w22 q23 F24 s25 => ?_
 refine st_pr F24 (PR.op (ex_asg rfl) <| PR.nil) fun q27 F28 => ?_
 refine st_end <| then_n <| wp_seq <| wp_reg ?_
 obtain ⟨x44, hx45, H⟩ := bind_ok H
 refine st_pr F28 (PR.op (ex_fab Fx.fa56_3 rfl rfl) <| PR.op (ex_ld Fx.nag22 rfl (s25.blk_cell (.tail _ <| .head _) rfl)) <| PR.nil) fun q46 F47 => ?_
 refine st_call (args := [.tmp 8]) F47 Fx.fn57 rfl (provisoref19_Code_c (a0 := a0.Code)  (hr0_4.pass0 s25) hx45) rfl fun v48 w49 q50 hS52 F51 => ?_
 obtain ⟨v55, rfl, hq54⟩ := hS52
 have s53 := s25.add hq54
 refine st_pr F51 (PR.op (ex_move rfl) <| PR.op (ex_extract (v := v55) rfl rfl) <| PR.op (ex_extract (v := .int .i64 x44.2) rfl rfl) <| PR.op (ex_asg rfl) <| PR.op (ex_asg rfl) <| PR.nil) fun q57 F58 => ?_
 refine st_end <| then_n <| wp_seq <| wp_seq <| wp_reg ?_
 refine st_pr F58 (PR.op (ex_move rfl) <| PR.op (ex_ne rfl rfl) <| PR.nil) fun q84 F85 => ?_
 refine st_end <| then_n ?_
 refine wp_if F85 rfl (fun hb86 => ?_) (fun hb86 => ?_)
 ·replace H := ite_t hb86 H
  refine wp_seq <| wp_reg ?_
  refine st_pr F85 (PR.op (ex_build (vs := []) Fx.zero56 Fx.pl56 rfl (cs := [.string ⟨⟨[]⟩⟩, .slice none 0 0, .int .u8 0, .int .i64 0, .slice none 0 0]) (rfl)) <| PR.op (ex_move rfl) <| PR.nil) fun q96 F97 => ?_
  have s1 := s53.f1
  refine st_storea F97 s1 rfl rfl Fx.sz56 (one_cons rfl (one_cons rfl (one_cons rfl (one_cons rfl (one_cons rfl one_nil))))) (Nat.le_of_ble_eq_true rfl) fun w98 q99 F1 s2 => ?_
  replace s2 : SL w [] w98 [Blk g21 56 [.string ⟨⟨[]⟩⟩, .slice none 0 0, .int .u8 0, .int .i64 0, .slice none 0 0], Sl Ty.u8 v55 x44.1, Blk g15 56 [.string ⟨⟨a0.Name⟩⟩, v0_1, .int .u8 (a0.Sig.Result.toNat : Int), .int .i64 a0.Locals, v0_4]] := s2
  refine st_pr F1 (PR.op (ex_asg rfl) <| PR.nil) fun q1 F2 => ?_
  refine st_end <| then_n ?_
  obtain rfl := some_ok H
  refine wp_ret ?_
  refine then_r ?_
  refine ret_gen (rs := [.cell 2 56, .tmp 3]) (vs := [.agg ⟨[.string ⟨⟨[]⟩⟩, .slice none 0 0, .int .u8 0, .int .i64 0, .slice none 0 0]⟩, .int .i64 x44.2]) F2 (by rfl) ⟨_, _, rfl, RV.blk s2 (.head _) rfl Fx.agg56 rfl, _, _, rfl, RV.tmp rfl, rfl⟩ ⟨_, rfl, ⟨(.slice none 0 0), (.slice none 0 0), rfl, View.nil, (SL.nilSl (T := Ty.u8) s2).f1.drop.f1.drop.f1.drop⟩⟩
 ·replace H := ite_f hb86 H
  refine wp_skip <| then_n <| wp_seq <| wp_reg ?_
  refine st_pr F85 (PR.op (ex_move rfl) <| PR.op (ex_fab Fx.fa56_3 rfl rfl) <| PR.nil) fun q2 F3 => ?_
  have s3 := s53.f2
  refine st_store F3 s3 rfl rfl Fx.sz22 (form_cells (formL (s3.own_rd (.tail _ <| .head _)))) (form_one (formL (s3.own_rd (.tail _ <| .head _)))) rfl fun w0 q3 F4 s4 => ?_
  replace s4 : SL w [] w0 [Blk g15 56 [.string ⟨⟨a0.Name⟩⟩, v0_1, .int .u8 (a0.Sig.Result.toNat : Int), .int .i64 a0.Locals, v55], Sl Ty.u8 v55 x44.1, Blk g21 56 [.string ⟨⟨[]⟩⟩, .slice none 0 0, .int .u8 0, .int .i64 0, .slice none 0 0]] := s4
  refine st_end <| then_n <| wp_seq <| wp_reg ?_
  refine st_pr F4 (PR.op (ex_ldagg Fx.agg56 rfl (s4.blk_cells (.head _) (o := 0) (ds := [.string ⟨⟨a0.Name⟩⟩, v0_1, .int .u8 (a0.Sig.Result.toNat : Int), .int .i64 a0.Locals, v55]) (fun j u hu => by rw [Nat.zero_add]; exact hu)) rfl) <| PR.nil) fun q4 F5 => ?_
  have s5 := s4.f2
  refine st_storea F5 s5 rfl rfl Fx.sz56 (one_cons rfl (one_cons (form_one (formL (rdL hr0_1 s5))) (one_cons rfl (one_cons rfl (one_cons (form_one (formL (s5.own_rd (.tail _ <| .tail _ <| .head _)))) one_nil))))) (Nat.le_of_ble_eq_true rfl) fun w1 q5 F6 s6 => ?_
  replace s6 : SL w [] w1 [Blk g21 56 [.string ⟨⟨a0.Name⟩⟩, v0_1, .int .u8 (a0.Sig.Result.toNat : Int), .int .i64 a0.Locals, v55], Blk g15 56 [.string ⟨⟨a0.Name⟩⟩, v0_1, .int .u8 (a0.Sig.Result.toNat : Int), .int .i64 a0.Locals, v55], Sl Ty.u8 v55 x44.1] := s6
  refine st_pr F6 (PR.op (ex_asg rfl) <| PR.nil) fun q6 F7 => ?_
  refine st_end <| then_n ?_
  obtain rfl := some_ok H
  refine wp_ret ?_
  refine ret_gen (rs := [.cell 2 56, .tmp 3]) (vs := [.agg ⟨[.string ⟨⟨a0.Name⟩⟩, v0_1, .int .u8 (a0.Sig.Result.toNat : Int), .int .i64 a0.Locals, v55]⟩, .int .i64 0]) F7 (by rfl) ⟨_, _, rfl, RV.blk s6 (.head _) rfl Fx.agg56 rfl, _, _, rfl, RV.tmp rfl, rfl⟩ ⟨_, rfl, ⟨v0_1, v55, rfl, View.refl, s6.drop.drop⟩⟩
-- The walk of slices.Equal[[]byte,byte].
theorem slices_Equal_byte_byte_c {w : World} {v0 v1 : Value} {a0 : List UInt8} {a1 : List UInt8} {r : Bool} (hr0 : Rd Ty.u8 w [] v0 a0) (hr1 : Rd Ty.u8 w [] v1 a1) (H : slices_Equal_byte_byte a0 a1 = some r) :
  Calls Try.prog 32 #[v0, v1] w (Ret fun u_ w_ => u_ = .bool r ∧ SL w [] w_ []) := by
 have s0 : SL w [] w [] := SL.init0 w
 refine call_enter Try.func32 rfl Try.ntmps32 (Nat.le_of_ble_eq_true rfl) (args := [v0, v1]) fun q0 F0 => ?_
 unfold slices_Equal_byte_byte at H
 refine wp_seq <| wp_reg ?_
 refine st_pr F0 (PR.op (ex_asg rfl) <| PR.nil) fun q3 F4 => ?_
 refine st_end <| then_n <| wp_seq <| wp_seq <| wp_reg ?_
 refine st_pr F4 (PR.op (ex_move rfl) <| PR.op (ex_len rfl Try.underlying22 (formL (rdL hr0 s0))) <| PR.op (ex_move rfl) <| PR.op (ex_len rfl Try.underlying22 (formL (rdL hr1 s0))) <| PR.op (ex_ne rfl rfl) <| PR.nil) fun q16 F17 => ?_
 refine st_end <| then_n ?_
 refine wp_if F17 rfl (fun hb18 => ?_) (fun hb18 => ?_)
 ·replace H := ite_t hb18 H
  refine wp_seq <| wp_reg ?_
  refine st_pr F17 (PR.op (ex_asg rfl) <| PR.nil) fun q21 F22 => ?_
  refine st_end <| then_n ?_
  obtain rfl := some_ok H
  refine wp_ret ?_
  refine then_r ?_
  refine ret_gen (rs := [.tmp 4]) (vs := [.bool false]) F22 (by rfl) ⟨_, _, rfl, RV.tmp rfl, rfl⟩ ⟨_, rfl, ⟨rfl, s0⟩⟩
 ·replace H := ite_f hb18 H
  refine wp_skip <| then_n <| wp_seq <| wp_seq <| wp_reg ?_
  refine st_pr F17 (PR.op (ex_move rfl) <| PR.op (ex_len rfl Try.underlying22 (formL (rdL hr0 s0))) <| PR.op (ex_move rfl) <| PR.nil) fun q1 F1 => ?_
  refine st_end <| then_n ?_
  obtain ⟨o0, H0, R0⟩ := bind_ok H
  clear H
  refine wp_cutn (fun a w_ => ∃ p0 : Unit, o0 = .inr (p0) ∧ Fr a 26 [] ∧ SL w [] w_ []) ?_ ?_
  ·have H := H0
   refine wp_block ?_
   refine wp_lp (slices_Equal_byte_byte_b0 a0 a1) (fun s1 a w_ => Fr a 26 [(0, v0), (1, v1), (12, .int .i64 (a0.length : Int)), (13, .int .i64 s1)] ∧ SL w [] w_ []) H ?_ ?_
   ·exact ⟨F1.sub ⟨rfl, rfl, rfl, rfl, trivial⟩, s0⟩
   ·intro s1 q2 w0 hI0 o1 H hr
    obtain ⟨F2, s2⟩ := hI0
    replace H : slices_Equal_byte_byte_b0 a0 a1 s1 = some o1 := H
    unfold slices_Equal_byte_byte_b0 at H
    refine wp_seq <| wp_reg ?_
    refine st_pr F2 (PR.op (ex_lt rfl rfl) <| PR.nil) fun q4 F3 => ?_
    refine st_end <| then_n <| wp_seq ?_
    refine wp_if F3 rfl (fun hb0 => ?_) (fun hb0 => ?_)
    ·replace H := ite_t hb0 H
     refine wp_skip <| then_n <| wp_seq <| wp_block <| wp_seq <| wp_reg ?_
     refine st_pr F3 (PR.op (ex_move rfl) <| PR.op (ex_asg rfl) <| PR.nil) fun q5 F5 => ?_
     refine st_end <| then_n <| wp_seq ?_
     obtain ⟨x0, hx0, H⟩ := bind_ok H
     obtain ⟨a2, hi0, hc0⟩ := idxC (C := fun w_ => SL w [] w_ []) Flat.u8 (fun _ hC => (rdL hr0 hC)) s2 Fx.sl22 rfl hx0
     obtain ⟨x1, hx1, H⟩ := bind_ok H
     obtain ⟨a3, hi1, hc1⟩ := idxC (C := fun w_ => SL w [] w_ []) Flat.u8 (fun _ hC => (rdL hr1 hC)) s2 Fx.sl22 rfl hx1
     refine wp_regq (fun w_ => SL w [] w_ []) Fx.mixed (by kernel_rfl) s2.drew F5 (QR.op (fun _ hC => ex_move rfl) <| QR.op (fun _ hC => ex_move rfl) <| QR.op (fun _ hC => hi0 _ _ _ _ _ _ _ _ _ _ rfl rfl) <| QR.op (fun _ hC => ex_ld Fx.nag5 rfl (Cells.at_ (hc0 _ hC) (o := 0) rfl)) <| QR.op (fun _ hC => ex_move rfl) <| QR.op (fun _ hC => ex_move rfl) <| QR.op (fun _ hC => hi1 _ _ _ _ _ _ _ _ _ _ rfl rfl) <| QR.op (fun _ hC => ex_ld Fx.nag5 rfl (Cells.at_ (hc1 _ hC) (o := 0) rfl)) <| QR.op (fun _ hC => ex_ne rfl rfl) <| QR.nil) fun w1 q6 s3 F6 => ?_
     refine then_n ?_
     refine wp_if F6 rfl (fun hb1 => ?_) (fun hb1 => ?_)
     ·replace H := ite_t hb1 H
      refine wp_seq <| wp_reg ?_
      refine st_pr F6 (PR.op (ex_asg rfl) <| PR.nil) fun q7 F7 => ?_
      refine st_end <| then_n ?_
      obtain rfl := some_ok H
      obtain rfl := hr _ rfl
      replace H := R0
      dsimp only at H
      obtain rfl := some_ok H
      refine wp_ret ?_
      refine blk_r <| then_r <| then_r <| blk_r <| then_r <| then_r ?_
      refine ret_gen (rs := [.tmp 4]) (vs := [.bool false]) F7 (by rfl) ⟨_, _, rfl, RV.tmp rfl, rfl⟩ ⟨_, rfl, ⟨rfl, s3⟩⟩
     ·replace H := ite_f hb1 H
      refine wp_skip ?_
      refine blk_n ?_
      refine then_n <| wp_reg ?_
      refine st_pr F6 (PR.op (ex_add rfl rfl) <| PR.op (ex_move rfl) <| PR.nil) fun q8 F8 => ?_
      refine st_end ?_
      obtain rfl := some_ok H
      refine then_n ?_
      exact ⟨_, rfl, F8.sub ⟨rfl, rfl, rfl, rfl, trivial⟩, s3⟩
    ·replace H := ite_f hb0 H
     refine wp_exit <| then_x <| then_x <| blk_hit ?_
     obtain rfl := some_ok H
     obtain rfl := hr _ rfl
     refine then_n ?_
     exact ⟨_, rfl, F3.sub trivial, s2⟩
  ·intro q9 w2 hJ
   obtain ⟨p0, rfl, F9, s4⟩ := hJ
   have H := R0
   clear R0 H0
   dsimp only at H
   refine then_n <| wp_seq <| wp_reg ?_
   refine st_pr F9 (PR.op (ex_asg rfl) <| PR.nil) fun q10 F10 => ?_
   refine st_end <| then_n ?_
   obtain rfl := some_ok H
   refine wp_ret ?_
   refine ret_gen (rs := [.tmp 4]) (vs := [.bool true]) F10 (by rfl) ⟨_, _, rfl, RV.tmp rfl, rfl⟩ ⟨_, rfl, ⟨rfl, s4⟩⟩
-- The walk of slices.Equal[[]proviso/api.Type,proviso/api.Type].
theorem slices_Equal_api_Type_api_Type_c {w : World} {v0 v1 : Value} {a0 : List UInt8} {a1 : List UInt8} {r : Bool} (hr0 : Rd Ty.u8 w [] v0 a0) (hr1 : Rd Ty.u8 w [] v1 a1) (H : slices_Equal_api_Type_api_Type a0 a1 = some r) :
  Calls Try.prog 59 #[v0, v1] w (Ret fun u_ w_ => u_ = .bool r ∧ SL w [] w_ []) := by
 have s0 : SL w [] w [] := SL.init0 w
 refine call_enter Try.func59 rfl Try.ntmps59 (Nat.le_of_ble_eq_true rfl) (args := [v0, v1]) fun q0 F0 => ?_
 unfold slices_Equal_api_Type_api_Type at H
 refine wp_seq <| wp_reg ?_
 refine st_pr F0 (PR.op (ex_asg rfl) <| PR.nil) fun q3 F4 => ?_
 refine st_end <| then_n <| wp_seq <| wp_seq <| wp_reg ?_
 refine st_pr F4 (PR.op (ex_move rfl) <| PR.op (ex_len rfl Try.underlying51 (formL (rdL hr0 s0))) <| PR.op (ex_move rfl) <| PR.op (ex_len rfl Try.underlying51 (formL (rdL hr1 s0))) <| PR.op (ex_ne rfl rfl) <| PR.nil) fun q16 F17 => ?_
 refine st_end <| then_n ?_
 refine wp_if F17 rfl (fun hb18 => ?_) (fun hb18 => ?_)
 ·replace H := ite_t hb18 H
  refine wp_seq <| wp_reg ?_
  refine st_pr F17 (PR.op (ex_asg rfl) <| PR.nil) fun q21 F22 => ?_
  refine st_end <| then_n ?_
  obtain rfl := some_ok H
  refine wp_ret ?_
  refine then_r ?_
  refine ret_gen (rs := [.tmp 4]) (vs := [.bool false]) F22 (by rfl) ⟨_, _, rfl, RV.tmp rfl, rfl⟩ ⟨_, rfl, ⟨rfl, s0⟩⟩
 ·replace H := ite_f hb18 H
  refine wp_skip <| then_n <| wp_seq <| wp_seq <| wp_reg ?_
  refine st_pr F17 (PR.op (ex_move rfl) <| PR.op (ex_len rfl Try.underlying51 (formL (rdL hr0 s0))) <| PR.op (ex_move rfl) <| PR.nil) fun q1 F1 => ?_
  refine st_end <| then_n ?_
  obtain ⟨o0, H0, R0⟩ := bind_ok H
  clear H
  refine wp_cutn (fun a w_ => ∃ p0 : Unit, o0 = .inr (p0) ∧ Fr a 26 [] ∧ SL w [] w_ []) ?_ ?_
  ·have H := H0
   refine wp_block ?_
   refine wp_lp (slices_Equal_api_Type_api_Type_b0 a0 a1) (fun s1 a w_ => Fr a 26 [(0, v0), (1, v1), (12, .int .i64 (a0.length : Int)), (13, .int .i64 s1)] ∧ SL w [] w_ []) H ?_ ?_
   ·exact ⟨F1.sub ⟨rfl, rfl, rfl, rfl, trivial⟩, s0⟩
   ·intro s1 q2 w0 hI0 o1 H hr
    obtain ⟨F2, s2⟩ := hI0
    replace H : slices_Equal_api_Type_api_Type_b0 a0 a1 s1 = some o1 := H
    unfold slices_Equal_api_Type_api_Type_b0 at H
    refine wp_seq <| wp_reg ?_
    refine st_pr F2 (PR.op (ex_lt rfl rfl) <| PR.nil) fun q4 F3 => ?_
    refine st_end <| then_n <| wp_seq ?_
    refine wp_if F3 rfl (fun hb0 => ?_) (fun hb0 => ?_)
    ·replace H := ite_t hb0 H
     refine wp_skip <| then_n <| wp_seq <| wp_block <| wp_seq <| wp_reg ?_
     refine st_pr F3 (PR.op (ex_move rfl) <| PR.op (ex_asg rfl) <| PR.nil) fun q5 F5 => ?_
     refine st_end <| then_n <| wp_seq ?_
     obtain ⟨x0, hx0, H⟩ := bind_ok H
     obtain ⟨a2, hi0, hc0⟩ := idxC (C := fun w_ => SL w [] w_ []) Flat.u8 (fun _ hC => (rdL hr0 hC)) s2 Fx.sl51 rfl hx0
     obtain ⟨x1, hx1, H⟩ := bind_ok H
     obtain ⟨a3, hi1, hc1⟩ := idxC (C := fun w_ => SL w [] w_ []) Flat.u8 (fun _ hC => (rdL hr1 hC)) s2 Fx.sl51 rfl hx1
     refine wp_regq (fun w_ => SL w [] w_ []) Fx.mixed (by kernel_rfl) s2.drew F5 (QR.op (fun _ hC => ex_move rfl) <| QR.op (fun _ hC => ex_move rfl) <| QR.op (fun _ hC => hi0 _ _ _ _ _ _ _ _ _ _ rfl rfl) <| QR.op (fun _ hC => ex_ld Fx.nag52 rfl (Cells.at_ (hc0 _ hC) (o := 0) rfl)) <| QR.op (fun _ hC => ex_move rfl) <| QR.op (fun _ hC => ex_move rfl) <| QR.op (fun _ hC => hi1 _ _ _ _ _ _ _ _ _ _ rfl rfl) <| QR.op (fun _ hC => ex_ld Fx.nag52 rfl (Cells.at_ (hc1 _ hC) (o := 0) rfl)) <| QR.op (fun _ hC => ex_ne rfl rfl) <| QR.nil) fun w1 q6 s3 F6 => ?_
     refine then_n ?_
     refine wp_if F6 rfl (fun hb1 => ?_) (fun hb1 => ?_)
     ·replace H := ite_t hb1 H
      refine wp_seq <| wp_reg ?_
      refine st_pr F6 (PR.op (ex_asg rfl) <| PR.nil) fun q7 F7 => ?_
      refine st_end <| then_n ?_
      obtain rfl := some_ok H
      obtain rfl := hr _ rfl
      replace H := R0
      dsimp only at H
      obtain rfl := some_ok H
      refine wp_ret ?_
      refine blk_r <| then_r <| then_r <| blk_r <| then_r <| then_r ?_
      refine ret_gen (rs := [.tmp 4]) (vs := [.bool false]) F7 (by rfl) ⟨_, _, rfl, RV.tmp rfl, rfl⟩ ⟨_, rfl, ⟨rfl, s3⟩⟩
     ·replace H := ite_f hb1 H
      refine wp_skip ?_
      refine blk_n ?_
      refine then_n <| wp_reg ?_
      refine st_pr F6 (PR.op (ex_add rfl rfl) <| PR.op (ex_move rfl) <| PR.nil) fun q8 F8 => ?_
      refine st_end ?_
      obtain rfl := some_ok H
      refine then_n ?_
      exact ⟨_, rfl, F8.sub ⟨rfl, rfl, rfl, rfl, trivial⟩, s3⟩
    ·replace H := ite_f hb0 H
     refine wp_exit <| then_x <| then_x <| blk_hit ?_
     obtain rfl := some_ok H
     obtain rfl := hr _ rfl
     refine then_n ?_
     exact ⟨_, rfl, F3.sub trivial, s2⟩
  ·intro q9 w2 hJ
   obtain ⟨p0, rfl, F9, s4⟩ := hJ
   have H := R0
   clear R0 H0
   dsimp only at H
   refine then_n <| wp_seq <| wp_reg ?_
   refine st_pr F9 (PR.op (ex_asg rfl) <| PR.nil) fun q10 F10 => ?_
   refine st_end <| then_n ?_
   obtain rfl := some_ok H
   refine wp_ret ?_
   refine ret_gen (rs := [.tmp 4]) (vs := [.bool true]) F10 (by rfl) ⟨_, _, rfl, RV.tmp rfl, rfl⟩ ⟨_, rfl, ⟨rfl, s4⟩⟩
-- The walk of proviso/provisoplain.SameSig.
theorem provisoplain_SameSig_c {w : World} {v0_0 v1_0 : Value} {a0 : S_api_Sig} {a1 : S_api_Sig} {r : Bool} (hr0_0 : Rd Ty.u8 w [] v0_0 a0.Params) (hr1_0 : Rd Ty.u8 w [] v1_0 a1.Params) (H : provisoplain_SameSig a0 a1 = some r) :
  Calls Try.prog 40 #[.agg ⟨[v0_0, .int .u8 (a0.Result.toNat : Int)]⟩, .agg ⟨[v1_0, .int .u8 (a1.Result.toNat : Int)]⟩] w (Ret fun u_ w_ => u_ = .bool r ∧ SL w [] w_ []) := by
 have s0 : SL w [] w [] := SL.init0 w
 refine call_enter Try.func40 rfl Try.ntmps40 (Nat.le_of_ble_eq_true rfl) (args := [.agg ⟨[v0_0, .int .u8 (a0.Result.toNat : Int)]⟩, .agg ⟨[v1_0, .int .u8 (a1.Result.toNat : Int)]⟩]) fun q0 F0 => ?_
 unfold provisoplain_SameSig at H
 refine wp_seq <| wp_reg ?_
 refine st_box F0 s0 rfl rfl rfl fun g15 w16 q17 F18 s19 => ?_
 refine st_box F18 s19 rfl rfl rfl fun g21 w22 q23 F24 s25 => ?_
 refine st_pr F24 (PR.op (ex_asg rfl) <| PR.nil) fun q27 F28 => ?_
 refine st_end <| then_n <| wp_seq <| wp_reg ?_
 refine st_pr F28 (PR.op (ex_fab Fx.fa54_1 rfl rfl) <| PR.op (ex_ld Fx.nag52 rfl (s25.blk_cell (.tail _ <| .head _) rfl)) <| PR.op (ex_fab Fx.fa54_1 rfl rfl) <| PR.op (ex_ld Fx.nag52 rfl (s25.blk_cell (.head _) rfl)) <| PR.op (ex_eq rfl rfl) <| PR.op (ex_move rfl) <| PR.nil) fun q63 F64 => ?_
 refine bool_split ((a0.Result.toNat : Int) == (a1.Result.toNat : Int)) (fun hb65 => ?_) (fun hb65 => ?_)
 ·replace H := ite_t hb65 H
  refine st_gop F64 rfl rfl (look_b rfl hb65) (ex_fab Fx.fa54_0 rfl rfl) rfl rfl fun q66 F67 => ?_
  refine st_gop F67 rfl rfl (look_b rfl hb65) (ex_ld Fx.nag51 rfl (s25.blk_cell (.tail _ <| .head _) rfl)) rfl rfl fun q68 F69 => ?_
  refine st_gop F69 rfl rfl (look_b rfl hb65) (ex_fab Fx.fa54_0 rfl rfl) rfl rfl fun q70 F71 => ?_
  refine st_gop F71 rfl rfl (look_b rfl hb65) (ex_ld Fx.nag51 rfl (s25.blk_cell (.head _) rfl)) rfl rfl fun q72 F73 => ?_
  obtain ⟨x74, hx75, H⟩ := bind_ok H
  refine st_ungd F73 rfl (look_b rfl hb65) ?_
  refine st_call (args := [.tmp 12, .tmp 14]) F73 Fx.fn59 rfl (slices_Equal_api_Type_api_Type_c (a0 := a0.Params) (a1 := a1.Params)  (hr0_0.pass0 s25) (hr1_0.pass0 s25) hx75) rfl fun v76 w77 q78 hS80 F79 => ?_
  obtain ⟨rfl, hq82⟩ := hS80
  have s81 := s25.add hq82
  refine st_pr F79 (PR.op (ex_pick_t (ev_b rfl hb65) rfl) <| PR.op (ex_asg rfl) <| PR.nil) fun q83 F84 => ?_
  refine st_end <| then_n ?_
  obtain rfl := some_ok H
  refine wp_ret ?_
  refine ret_gen (rs := [.tmp 4]) (vs := [.bool x74]) F84 (by rfl) ⟨_, _, rfl, RV.tmp rfl, rfl⟩ ⟨_, rfl, ⟨rfl, s81.drop.drop⟩⟩
 ·replace H := ite_f hb65 H
  refine st_gskip F64 rfl rfl (look_b rfl hb65) Bool.noConfusion rfl rfl fun q85 F86 => ?_
  refine st_gskip F86 rfl rfl (look_b rfl hb65) Bool.noConfusion rfl rfl fun q87 F88 => ?_
  refine st_gskip F88 rfl rfl (look_b rfl hb65) Bool.noConfusion rfl rfl fun q89 F90 => ?_
  refine st_gskip F90 rfl rfl (look_b rfl hb65) Bool.noConfusion rfl rfl fun q91 F92 => ?_
  refine st_gskip F92 rfl rfl (look_b rfl hb65) Bool.noConfusion rfl rfl fun q93 F94 => ?_
  refine st_pr F94 (PR.op (ex_pick_f (ev_b rfl hb65) rfl) <| PR.op (ex_asg rfl) <| PR.nil) fun q95 F96 => ?_
  refine st_end <| then_n ?_
  obtain rfl := some_ok H
  refine wp_ret ?_
  refine ret_gen (rs := [.tmp 4]) (vs := [.bool false]) F96 (by rfl) ⟨_, _, rfl, RV.tmp rfl, rfl⟩ ⟨_, rfl, ⟨rfl, s25.drop.drop⟩⟩
-- The walk of proviso/provisoplain.SameFunc.
theorem provisoplain_SameFunc_c {w : World} {v0_1 v0_4 v1_1 v1_4 : Value} {a0 : S_api_Func} {a1 : S_api_Func} {r : Bool} (hr0_1 : Rd Ty.u8 w [] v0_1 a0.Sig.Params) (hr0_4 : Rd Ty.u8 w [] v0_4 a0.Code) (hr1_1 : Rd Ty.u8 w [] v1_1 a1.Sig.Params) (hr1_4 : Rd Ty.u8 w [] v1_4 a1.Code) (H : provisoplain_SameFunc a0 a1 = some r) :
  Calls Try.prog 30 #[.agg ⟨[.string ⟨⟨a0.Name⟩⟩, v0_1, .int .u8 (a0.Sig.Result.toNat : Int), .int .i64 a0.Locals, v0_4]⟩, .agg ⟨[.string ⟨⟨a1.Name⟩⟩, v1_1, .int .u8 (a1.Sig.Result.toNat : Int), .int .i64 a1.Locals, v1_4]⟩] w (Ret fun u_ w_ => u_ = .bool r ∧ SL w [] w_ []) := by
 have s0 : SL w [] w [] := SL.init0 w
 refine call_enter Try.func30 rfl Try.ntmps30 (Nat.le_of_ble_eq_true rfl) (args := [.agg ⟨[.string ⟨⟨a0.Name⟩⟩, v0_1, .int .u8 (a0.Sig.Result.toNat : Int), .int .i64 a0.Locals, v0_4]⟩, .agg ⟨[.string ⟨⟨a1.Name⟩⟩, v1_1, .int .u8 (a1.Sig.Result.toNat : Int), .int .i64 a1.Locals, v1_4]⟩]) fun q0 F0 => ?_
 unfold provisoplain_SameFunc at H
 refine wp_seq <| wp_reg ?_
 refine st_box F0 s0 rfl rfl rfl fun g15 w16 q17 F18 s19 => ?_
 refine st_box F18 s19 rfl rfl rfl fun g21 w22 q23 F24 s25 => ?_
 refine st_pr F24 (PR.op (ex_asg rfl) <| PR.nil) fun q27 F28 => ?_
 refine st_end <| then_n <| wp_seq <| wp_reg ?_
 refine st_pr F28 (PR.op (ex_fab Fx.fa56_0 rfl rfl) <| PR.op (ex_ld Fx.nag9 rfl (s25.blk_cell (.tail _ <| .head _) rfl)) <| PR.op (ex_fab Fx.fa56_0 rfl rfl) <| PR.op (ex_ld Fx.nag9 rfl (s25.blk_cell (.head _) rfl)) <| PR.op (ex_seq rfl rfl) <| PR.op (ex_move rfl) <| PR.nil) fun q1 F1 => ?_
 refine bool_split (a0.Name == a1.Name) (fun hb0 => ?_) (fun hb0 => ?_)
 ·replace H := ite_t hb0 H
  refine st_gop F1 rfl rfl (look_b rfl hb0) (ex_fab Fx.fa56_1 rfl rfl) rfl rfl fun q2 F2 => ?_
  refine st_gop F2 rfl rfl (look_b rfl hb0) (ex_ldagg Fx.agg54 rfl (s25.blk_cells (.tail _ <| .head _) (o := 1) (ds := [v0_1, .int .u8 (a0.Sig.Result.toNat : Int)]) (subcells _ rfl)) rfl) rfl rfl fun q3 F3 => ?_
  refine st_gop F3 rfl rfl (look_b rfl hb0) (ex_fab Fx.fa56_1 rfl rfl) rfl rfl fun q4 F4 => ?_
  refine st_gop F4 rfl rfl (look_b rfl hb0) (ex_ldagg Fx.agg54 rfl (s25.blk_cells (.head _) (o := 1) (ds := [v1_1, .int .u8 (a1.Sig.Result.toNat : Int)]) (subcells _ rfl)) rfl) rfl rfl fun q5 F5 => ?_
  obtain ⟨x0, hx0, H⟩ := bind_ok H
  refine st_ungd F5 rfl (look_b rfl hb0) ?_
  refine st_call (args := [.tmp 12, .tmp 14]) F5 Fx.fn40 rfl (provisoplain_SameSig_c (a0 := (⟨a0.Sig.Params, a0.Sig.Result⟩ : S_api_Sig)) (a1 := (⟨a1.Sig.Params, a1.Sig.Result⟩ : S_api_Sig))  (hr0_1.pass0 s25) (hr1_1.pass0 s25) hx0) rfl fun v0 w0 q6 hS0 F6 => ?_
  obtain ⟨rfl, hq0⟩ := hS0
  have s1 := s25.add hq0
  refine st_pr F6 (PR.op (ex_pick_t (ev_b rfl hb0) rfl) <| PR.op (ex_move rfl) <| PR.nil) fun q7 F7 => ?_
  refine bool_split x0 (fun hb1 => ?_) (fun hb1 => ?_)
  ·replace H := ite_t hb1 H
   refine st_gop F7 rfl rfl (look_b rfl hb1) (ex_fab Fx.fa56_2 rfl rfl) rfl rfl fun q8 F8 => ?_
   refine st_gop F8 rfl rfl (look_b rfl hb1) (ex_ld Fx.nag3 rfl (s1.blk_cell (.tail _ <| .head _) rfl)) rfl rfl fun q9 F9 => ?_
   refine st_gop F9 rfl rfl (look_b rfl hb1) (ex_fab Fx.fa56_2 rfl rfl) rfl rfl fun q10 F10 => ?_
   refine st_gop F10 rfl rfl (look_b rfl hb1) (ex_ld Fx.nag3 rfl (s1.blk_cell (.head _) rfl)) rfl rfl fun q11 F11 => ?_
   refine st_gop F11 rfl rfl (look_b rfl hb1) (ex_eq rfl rfl) rfl rfl fun q12 F12 => ?_
   refine st_pr F12 (PR.op (ex_pick_t (ev_b rfl hb1) rfl) <| PR.op (ex_move rfl) <| PR.nil) fun q13 F13 => ?_
   refine bool_split (a0.Locals == a1.Locals) (fun hb2 => ?_) (fun hb2 => ?_)
   ·replace H := ite_t hb2 H
    refine st_gop F13 rfl rfl (look_b rfl hb2) (ex_fab Fx.fa56_3 rfl rfl) rfl rfl fun q14 F14 => ?_
    refine st_gop F14 rfl rfl (look_b rfl hb2) (ex_ld Fx.nag22 rfl (s1.blk_cell (.tail _ <| .head _) rfl)) rfl rfl fun q15 F15 => ?_
    refine st_gop F15 rfl rfl (look_b rfl hb2) (ex_fab Fx.fa56_3 rfl rfl) rfl rfl fun q16 F16 => ?_
    refine st_gop F16 rfl rfl (look_b rfl hb2) (ex_ld Fx.nag22 rfl (s1.blk_cell (.head _) rfl)) rfl rfl fun q18 F17 => ?_
    obtain ⟨x1, hx1, H⟩ := bind_ok H
    refine st_ungd F17 rfl (look_b rfl hb2) ?_
    refine st_call (args := [.tmp 26, .tmp 28]) F17 Fx.fn32 rfl (slices_Equal_byte_byte_c (a0 := a0.Code) (a1 := a1.Code)  (hr0_4.pass0 s1) (hr1_4.pass0 s1) hx1) rfl fun v1 w1 q19 hS1 F19 => ?_
    obtain ⟨rfl, hq1⟩ := hS1
    have s2 := s1.add hq1
    refine st_pr F19 (PR.op (ex_pick_t (ev_b rfl hb2) rfl) <| PR.op (ex_asg rfl) <| PR.nil) fun q20 F20 => ?_
    refine st_end <| then_n ?_
    obtain rfl := some_ok H
    refine wp_ret ?_
    refine ret_gen (rs := [.tmp 4]) (vs := [.bool x1]) F20 (by rfl) ⟨_, _, rfl, RV.tmp rfl, rfl⟩ ⟨_, rfl, ⟨rfl, s2.drop.drop⟩⟩
   ·replace H := ite_f hb2 H
    refine st_gskip F13 rfl rfl (look_b rfl hb2) Bool.noConfusion rfl rfl fun q21 F21 => ?_
    refine st_gskip F21 rfl rfl (look_b rfl hb2) Bool.noConfusion rfl rfl fun q22 F22 => ?_
    refine st_gskip F22 rfl rfl (look_b rfl hb2) Bool.noConfusion rfl rfl fun q24 F23 => ?_
    refine st_gskip F23 rfl rfl (look_b rfl hb2) Bool.noConfusion rfl rfl fun q25 F25 => ?_
    refine st_gskip F25 rfl rfl (look_b rfl hb2) Bool.noConfusion rfl rfl fun q26 F26 => ?_
    refine st_pr F26 (PR.op (ex_pick_f (ev_b rfl hb2) rfl) <| PR.op (ex_asg rfl) <| PR.nil) fun q28 F27 => ?_
    refine st_end <| then_n ?_
    obtain rfl := some_ok H
    refine wp_ret ?_
    refine ret_gen (rs := [.tmp 4]) (vs := [.bool false]) F27 (by rfl) ⟨_, _, rfl, RV.tmp rfl, rfl⟩ ⟨_, rfl, ⟨rfl, s1.drop.drop⟩⟩
  ·replace H := ite_f hb1 H
   refine st_gskip F7 rfl rfl (look_b rfl hb1) Bool.noConfusion rfl rfl fun q29 F29 => ?_
   refine st_gskip F29 rfl rfl (look_b rfl hb1) Bool.noConfusion rfl rfl fun q30 F30 => ?_
   refine st_gskip F30 rfl rfl (look_b rfl hb1) Bool.noConfusion rfl rfl fun q31 F31 => ?_
   refine st_gskip F31 rfl rfl (look_b rfl hb1) Bool.noConfusion rfl rfl fun q32 F32 => ?_
   refine st_gskip F32 rfl rfl (look_b rfl hb1) Bool.noConfusion rfl rfl fun q33 F33 => ?_
   refine st_pr F33 (PR.op (ex_pick_f (ev_b rfl hb1) rfl) <| PR.op (ex_move rfl) <| PR.nil) fun q34 F34 => ?_
   refine st_gskip F34 rfl rfl rfl Bool.noConfusion rfl rfl fun q35 F35 => ?_
   refine st_gskip F35 rfl rfl rfl Bool.noConfusion rfl rfl fun q36 F36 => ?_
   refine st_gskip F36 rfl rfl rfl Bool.noConfusion rfl rfl fun q37 F37 => ?_
   refine st_gskip F37 rfl rfl rfl Bool.noConfusion rfl rfl fun q38 F38 => ?_
   refine st_gskip F38 rfl rfl rfl Bool.noConfusion rfl rfl fun q39 F39 => ?_
   refine st_pr F39 (PR.op (ex_pick_f rfl rfl) <| PR.op (ex_asg rfl) <| PR.nil) fun q40 F40 => ?_
   refine st_end <| then_n ?_
   obtain rfl := some_ok H
   refine wp_ret ?_
   refine ret_gen (rs := [.tmp 4]) (vs := [.bool false]) F40 (by rfl) ⟨_, _, rfl, RV.tmp rfl, rfl⟩ ⟨_, rfl, ⟨rfl, s1.drop.drop⟩⟩
 ·replace H := ite_f hb0 H
  refine st_gskip F1 rfl rfl (look_b rfl hb0) Bool.noConfusion rfl rfl fun q41 F41 => ?_
  refine st_gskip F41 rfl rfl (look_b rfl hb0) Bool.noConfusion rfl rfl fun q42 F42 => ?_
  refine st_gskip F42 rfl rfl (look_b rfl hb0) Bool.noConfusion rfl rfl fun q43 F43 => ?_
  refine st_gskip F43 rfl rfl (look_b rfl hb0) Bool.noConfusion rfl rfl fun q44 F44 => ?_
  refine st_gskip F44 rfl rfl (look_b rfl hb0) Bool.noConfusion rfl rfl fun q45 F45 => ?_
  refine st_pr F45 (PR.op (ex_pick_f (ev_b rfl hb0) rfl) <| PR.op (ex_move rfl) <| PR.nil) fun q46 F46 => ?_
  refine st_gskip F46 rfl rfl rfl Bool.noConfusion rfl rfl fun q47 F47 => ?_
  refine st_gskip F47 rfl rfl rfl Bool.noConfusion rfl rfl fun q48 F48 => ?_
  refine st_gskip F48 rfl rfl rfl Bool.noConfusion rfl rfl fun q49 F49 => ?_
  refine st_gskip F49 rfl rfl rfl Bool.noConfusion rfl rfl fun q50 F50 => ?_
  refine st_gskip F50 rfl rfl rfl Bool.noConfusion rfl rfl fun q51 F51 => ?_
  refine st_pr F51 (PR.op (ex_pick_f rfl rfl) <| PR.op (ex_move rfl) <| PR.nil) fun q52 F52 => ?_
  refine st_gskip F52 rfl rfl rfl Bool.noConfusion rfl rfl fun q53 F53 => ?_
  refine st_gskip F53 rfl rfl rfl Bool.noConfusion rfl rfl fun q54 F54 => ?_
  refine st_gskip F54 rfl rfl rfl Bool.noConfusion rfl rfl fun q55 F55 => ?_
  refine st_gskip F55 rfl rfl rfl Bool.noConfusion rfl rfl fun q56 F56 => ?_
  refine st_gskip F56 rfl rfl rfl Bool.noConfusion rfl rfl fun q57 F57 => ?_
  refine st_pr F57 (PR.op (ex_pick_f rfl rfl) <| PR.op (ex_asg rfl) <| PR.nil) fun q58 F58 => ?_
  refine st_end <| then_n ?_
  obtain rfl := some_ok H
  refine wp_ret ?_
  refine ret_gen (rs := [.tmp 4]) (vs := [.bool false]) F58 (by rfl) ⟨_, _, rfl, RV.tmp rfl, rfl⟩ ⟨_, rfl, ⟨rfl, s25.drop.drop⟩⟩
-- The walk of proviso/provisolaw19.OptFuncs.
theorem provisolaw19_OptFuncs_c {w : World} {v0_1 v0_4 : Value} {a0 : S_api_Func} {r : Bool} (hr0_1 : Rd Ty.u8 w [] v0_1 a0.Sig.Params) (hr0_4 : Rd Ty.u8 w [] v0_4 a0.Code) (H : provisolaw19_OptFuncs a0 = some r) :
  Calls Try.prog 6 #[.agg ⟨[.string ⟨⟨a0.Name⟩⟩, v0_1, .int .u8 (a0.Sig.Result.toNat : Int), .int .i64 a0.Locals, v0_4]⟩] w (Ret fun u_ w_ => u_ = .bool r ∧ SL w [] w_ []) := by
 have s0 : SL w [] w [] := SL.init0 w
 refine call_enter Try.func6 rfl Try.ntmps6 (Nat.le_of_ble_eq_true rfl) (args := [.agg ⟨[.string ⟨⟨a0.Name⟩⟩, v0_1, .int .u8 (a0.Sig.Result.toNat : Int), .int .i64 a0.Locals, v0_4]⟩]) fun q0 F0 => ?_
 unfold provisolaw19_OptFuncs at H
 refine wp_seq <| wp_reg ?_
 refine st_box F0 s0 rfl rfl rfl fun g9 w10 q11 F12 s13 => ?_
 refine st_pr F12 (PR.op (ex_asg rfl) <| PR.nil) fun q15 F16 => ?_
 refine st_end <| then_n <| wp_seq <| wp_seq <| wp_reg ?_
 refine st_pr F16 (PR.op (ex_fab Fx.fa56_3 rfl rfl) <| PR.op (ex_ld Fx.nag22 rfl (s13.blk_cell (.head _) rfl)) <| PR.op (ex_len rfl Try.underlying22 (formL (rdL hr0_4 s13))) <| PR.op (ex_gt rfl rfl) <| PR.nil) fun q28 F29 => ?_
 refine st_end <| then_n ?_
 refine wp_if F29 rfl (fun hb30 => ?_) (fun hb30 => ?_)
 ·replace H := ite_t hb30 H
  refine wp_seq <| wp_reg ?_
  refine st_pr F29 (PR.op (ex_asg rfl) <| PR.nil) fun q33 F34 => ?_
  refine st_end <| then_n ?_
  obtain rfl := some_ok H
  refine wp_ret ?_
  refine then_r ?_
  refine ret_gen (rs := [.tmp 2]) (vs := [.bool true]) F34 (by rfl) ⟨_, _, rfl, RV.tmp rfl, rfl⟩ ⟨_, rfl, ⟨rfl, s13.drop⟩⟩
 ·replace H := ite_f hb30 H
  refine wp_skip <| then_n <| wp_seq <| wp_reg ?_
  obtain ⟨x61, hx62, H⟩ := bind_ok H
  refine st_pr F29 (PR.op (ex_ldagg Fx.agg56 rfl (s13.blk_cells (.head _) (o := 0) (ds := [.string ⟨⟨a0.Name⟩⟩, v0_1, .int .u8 (a0.Sig.Result.toNat : Int), .int .i64 a0.Locals, v0_4]) (fun j u hu => by rw [Nat.zero_add]; exact hu)) rfl) <| PR.nil) fun q63 F64 => ?_
  refine st_call (args := [.tmp 12]) F64 Fx.fn24 rfl (provisoplain_Func_c (a0 := (⟨a0.Name, (⟨a0.Sig.Params, a0.Sig.Result⟩ : S_api_Sig), a0.Locals, a0.Code⟩ : S_api_Func))  (hr0_1.pass0 s13) (hr0_4.pass0 s13) hx62) rfl fun v65 w66 q67 hS69 F68 => ?_
  obtain ⟨v72, v74, rfl, hq71⟩ := hS69
  have s70 := s13.add hq71
  refine st_alloc F68 s70 Fx.zero56 rfl rfl fun g76 w77 q78 F79 s80 => ?_
  have s86 := s80
  refine st_storea F79 s86 rfl rfl Fx.sz56 (one_cons rfl (one_cons (form_one (formL (s86.own_rd (.tail _ <| .head _)))) (one_cons rfl (one_cons rfl (one_cons (form_one (formL (s86.own_rd (.tail _ <| .tail _ <| .head _)))) one_nil))))) (Nat.le_of_ble_eq_true rfl) fun w82 q83 F84 s85 => ?_
  replace s85 : SL w [] w82 [Blk g76 56 [.string ⟨⟨x61.Name⟩⟩, v72, .int .u8 (x61.Sig.Result.toNat : Int), .int .i64 x61.Locals, v74], Sl Ty.u8 v72 x61.Sig.Params, Sl Ty.u8 v74 x61.Code, Blk g9 56 [.string ⟨⟨a0.Name⟩⟩, v0_1, .int .u8 (a0.Sig.Result.toNat : Int), .int .i64 a0.Locals, v0_4]] := s85
  refine st_end <| then_n <| wp_seq <| wp_reg ?_
  obtain ⟨x0, hx0, H⟩ := bind_ok H
  refine st_pr F84 (PR.op (ex_ldagg Fx.agg56 rfl (s85.blk_cells (.head _) (o := 0) (ds := [.string ⟨⟨x61.Name⟩⟩, v72, .int .u8 (x61.Sig.Result.toNat : Int), .int .i64 x61.Locals, v74]) (fun j u hu => by rw [Nat.zero_add]; exact hu)) rfl) <| PR.nil) fun q1 F1 => ?_
  refine st_call (args := [.tmp 15]) F1 Fx.fn23 rfl (opt_Func_c (a0 := (⟨x61.Name, (⟨x61.Sig.Params, x61.Sig.Result⟩ : S_api_Sig), x61.Locals, x61.Code⟩ : S_api_Func))  (s85.rd0 (.tail _ <| .head _)) (s85.rd0 (.tail _ <| .tail _ <| .head _)) hx0) rfl fun v0 w0 q2 hS0 F2 => ?_
  obtain ⟨v1, v2, rfl, hq0⟩ := hS0
  have s1 := s85.add hq0
  refine st_pr F2 (PR.op (ex_move rfl) <| PR.op (ex_extract (v := .agg ⟨[.string ⟨⟨x0.1.Name⟩⟩, v1, .int .u8 (x0.1.Sig.Result.toNat : Int), .int .i64 x0.1.Locals, v2]⟩) rfl rfl) <| PR.op (ex_extract (v := .int .i64 x0.2) rfl rfl) <| PR.nil) fun q3 F3 => ?_
  refine st_alloc F3 s1 Fx.zero56 rfl rfl fun g0 w1 q4 F4 s2 => ?_
  have s3 := s2
  refine st_storea F4 s3 rfl rfl Fx.sz56 (one_cons rfl (one_cons (form_one (formL (s3.own_rd (.tail _ <| .head _)))) (one_cons rfl (one_cons rfl (one_cons (form_one (formL (s3.own_rd (.tail _ <| .tail _ <| .head _)))) one_nil))))) (Nat.le_of_ble_eq_true rfl) fun w2 q5 F5 s4 => ?_
  replace s4 : SL w [] w2 [Blk g0 56 [.string ⟨⟨x0.1.Name⟩⟩, v1, .int .u8 (x0.1.Sig.Result.toNat : Int), .int .i64 x0.1.Locals, v2], Sl Ty.u8 v1 x0.1.Sig.Params, Sl Ty.u8 v2 x0.1.Code, Blk g76 56 [.string ⟨⟨x61.Name⟩⟩, v72, .int .u8 (x61.Sig.Result.toNat : Int), .int .i64 x61.Locals, v74], Sl Ty.u8 v72 x61.Sig.Params, Sl Ty.u8 v74 x61.Code, Blk g9 56 [.string ⟨⟨a0.Name⟩⟩, v0_1, .int .u8 (a0.Sig.Result.toNat : Int), .int .i64 a0.Locals, v0_4]] := s4
  refine st_pr F5 (PR.op (ex_asg rfl) <| PR.nil) fun q6 F6 => ?_
  refine st_end <| then_n <| wp_seq <| wp_reg ?_
  obtain ⟨x1, hx1, H⟩ := bind_ok H
  refine st_pr F6 (PR.op (ex_ldagg Fx.agg56 rfl (s4.blk_cells (.tail _ <| .tail _ <| .tail _ <| .tail _ <| .tail _ <| .tail _ <| .head _) (o := 0) (ds := [.string ⟨⟨a0.Name⟩⟩, v0_1, .int .u8 (a0.Sig.Result.toNat : Int), .int .i64 a0.Locals, v0_4]) (fun j u hu => by rw [Nat.zero_add]; exact hu)) rfl) <| PR.nil) fun q7 F7 => ?_
  refine st_call (args := [.tmp 20]) F7 Fx.fn29 rfl (provisoref19_Func_c (a0 := (⟨a0.Name, (⟨a0.Sig.Params, a0.Sig.Result⟩ : S_api_Sig), a0.Locals, a0.Code⟩ : S_api_Func))  (hr0_1.pass0 s4) (hr0_4.pass0 s4) hx1) rfl fun v3 w3 q8 hS1 F8 => ?_
  obtain ⟨v4, v5, rfl, hv0, hq1⟩ := hS1
  have s5 := s4.add hq1
  have hr0 := View.rd hv0 hr0_1
  refine st_pr F8 (PR.op (ex_move rfl) <| PR.op (ex_extract (v := .agg ⟨[.string ⟨⟨x1.1.Name⟩⟩, v4, .int .u8 (x1.1.Sig.Result.toNat : Int), .int .i64 x1.1.Locals, v5]⟩) rfl rfl) <| PR.op (ex_extract (v := .int .i64 x1.2) rfl rfl) <| PR.nil) fun q9 F9 => ?_
  refine st_alloc F9 s5 Fx.zero56 rfl rfl fun g1 w4 q10 F10 s6 => ?_
  have s7 := s6
  refine st_storea F10 s7 rfl rfl Fx.sz56 (one_cons rfl (one_cons (form_one (formL (rdL hr0 s7))) (one_cons rfl (one_cons rfl (one_cons (form_one (formL (s7.own_rd (.tail _ <| .head _)))) one_nil))))) (Nat.le_of_ble_eq_true rfl) fun w5 q12 F11 s8 => ?_
  replace s8 : SL w [] w5 [Blk g1 56 [.string ⟨⟨x1.1.Name⟩⟩, v4, .int .u8 (x1.1.Sig.Result.toNat : Int), .int .i64 x1.1.Locals, v5], Sl Ty.u8 v5 x1.1.Code, Blk g0 56 [.string ⟨⟨x0.1.Name⟩⟩, v1, .int .u8 (x0.1.Sig.Result.toNat : Int), .int .i64 x0.1.Locals, v2], Sl Ty.u8 v1 x0.1.Sig.Params, Sl Ty.u8 v2 x0.1.Code, Blk g76 56 [.string ⟨⟨x61.Name⟩⟩, v72, .int .u8 (x61.Sig.Result.toNat : Int), .int .i64 x61.Locals, v74], Sl Ty.u8 v72 x61.Sig.Params, Sl Ty.u8 v74 x61.Code, Blk g9 56 [.string ⟨⟨a0.Name⟩⟩, v0_1, .int .u8 (a0.Sig.Result.toNat : Int), .int .i64 a0.Locals, v0_4]] := s8
  refine st_pr F11 (PR.op (ex_asg rfl) <| PR.nil) fun q13 F13 => ?_
  refine st_end <| then_n <| wp_seq <| wp_reg ?_
  refine st_pr F13 (PR.op (ex_move rfl) <| PR.op (ex_move rfl) <| PR.op (ex_eq rfl rfl) <| PR.op (ex_move rfl) <| PR.nil) fun q14 F14 => ?_
  refine bool_split (x0.2 == x1.2) (fun hb0 => ?_) (fun hb0 => ?_)
  ·replace H := ite_t hb0 H
   refine st_gop F14 rfl rfl (look_b rfl hb0) (ex_ldagg Fx.agg56 rfl (s8.blk_cells (.tail _ <| .tail _ <| .head _) (o := 0) (ds := [.string ⟨⟨x0.1.Name⟩⟩, v1, .int .u8 (x0.1.Sig.Result.toNat : Int), .int .i64 x0.1.Locals, v2]) (fun j u hu => by rw [Nat.zero_add]; exact hu)) rfl) rfl rfl fun q16 F15 => ?_
   refine st_gop F15 rfl rfl (look_b rfl hb0) (ex_ldagg Fx.agg56 rfl (s8.blk_cells (.head _) (o := 0) (ds := [.string ⟨⟨x1.1.Name⟩⟩, v4, .int .u8 (x1.1.Sig.Result.toNat : Int), .int .i64 x1.1.Locals, v5]) (fun j u hu => by rw [Nat.zero_add]; exact hu)) rfl) rfl rfl fun q17 F17 => ?_
   obtain ⟨x2, hx2, H⟩ := bind_ok H
   refine st_ungd F17 rfl (look_b rfl hb0) ?_
   refine st_call (args := [.tmp 28, .tmp 29]) F17 Fx.fn30 rfl (provisoplain_SameFunc_c (a0 := (⟨x0.1.Name, (⟨x0.1.Sig.Params, x0.1.Sig.Result⟩ : S_api_Sig), x0.1.Locals, x0.1.Code⟩ : S_api_Func)) (a1 := (⟨x1.1.Name, (⟨x1.1.Sig.Params, x1.1.Sig.Result⟩ : S_api_Sig), x1.1.Locals, x1.1.Code⟩ : S_api_Func))  (s8.rd0 (.tail _ <| .tail _ <| .tail _ <| .head _)) (s8.rd0 (.tail _ <| .tail _ <| .tail _ <| .tail _ <| .head _)) (hr0.pass0 s8) (s8.rd0 (.tail _ <| .head _)) hx2) rfl fun v6 w6 q18 hS2 F18 => ?_
   obtain ⟨rfl, hq2⟩ := hS2
   have s9 := s8.add hq2
   refine st_pr F18 (PR.op (ex_pick_t (ev_b rfl hb0) rfl) <| PR.op (ex_move rfl) <| PR.nil) fun q19 F19 => ?_
   refine bool_split x2 (fun hb1 => ?_) (fun hb1 => ?_)
   ·replace H := ite_t hb1 H
    refine st_gop F19 rfl rfl (look_b rfl hb1) (ex_ldagg Fx.agg56 rfl (s9.blk_cells (.tail _ <| .tail _ <| .tail _ <| .tail _ <| .tail _ <| .head _) (o := 0) (ds := [.string ⟨⟨x61.Name⟩⟩, v72, .int .u8 (x61.Sig.Result.toNat : Int), .int .i64 x61.Locals, v74]) (fun j u hu => by rw [Nat.zero_add]; exact hu)) rfl) rfl rfl fun q20 F20 => ?_
    refine st_gop F20 rfl rfl (look_b rfl hb1) (ex_ldagg Fx.agg56 rfl (s9.blk_cells (.tail _ <| .tail _ <| .tail _ <| .tail _ <| .tail _ <| .tail _ <| .tail _ <| .tail _ <| .head _) (o := 0) (ds := [.string ⟨⟨a0.Name⟩⟩, v0_1, .int .u8 (a0.Sig.Result.toNat : Int), .int .i64 a0.Locals, v0_4]) (fun j u hu => by rw [Nat.zero_add]; exact hu)) rfl) rfl rfl fun q21 F21 => ?_
    obtain ⟨x3, hx3, H⟩ := bind_ok H
    refine st_ungd F21 rfl (look_b rfl hb1) ?_
    refine st_call (args := [.tmp 33, .tmp 34]) F21 Fx.fn30 rfl (provisoplain_SameFunc_c (a0 := (⟨x61.Name, (⟨x61.Sig.Params, x61.Sig.Result⟩ : S_api_Sig), x61.Locals, x61.Code⟩ : S_api_Func)) (a1 := (⟨a0.Name, (⟨a0.Sig.Params, a0.Sig.Result⟩ : S_api_Sig), a0.Locals, a0.Code⟩ : S_api_Func))  (s9.rd0 (.tail _ <| .tail _ <| .tail _ <| .tail _ <| .tail _ <| .tail _ <| .head _)) (s9.rd0 (.tail _ <| .tail _ <| .tail _ <| .tail _ <| .tail _ <| .tail _ <| .tail _ <| .head _)) (hr0_1.pass0 s9) (hr0_4.pass0 s9) hx3) rfl fun v7 w7 q22 hS3 F22 => ?_
    obtain ⟨rfl, hq3⟩ := hS3
    have s10 := s9.add hq3
    refine st_pr F22 (PR.op (ex_pick_t (ev_b rfl hb1) rfl) <| PR.op (ex_asg rfl) <| PR.nil) fun q23 F23 => ?_
    refine st_end <| then_n ?_
    obtain rfl := some_ok H
    refine wp_ret ?_
    refine ret_gen (rs := [.tmp 2]) (vs := [.bool x3]) F23 (by rfl) ⟨_, _, rfl, RV.tmp rfl, rfl⟩ ⟨_, rfl, ⟨rfl, s10.drop.drop.drop.drop.drop.drop.drop.drop.drop⟩⟩
   ·replace H := ite_f hb1 H
    refine st_gskip F19 rfl rfl (look_b rfl hb1) Bool.noConfusion rfl rfl fun q24 F24 => ?_
    refine st_gskip F24 rfl rfl (look_b rfl hb1) Bool.noConfusion rfl rfl fun q25 F25 => ?_
    refine st_gskip F25 rfl rfl (look_b rfl hb1) Bool.noConfusion rfl rfl fun q26 F26 => ?_
    refine st_pr F26 (PR.op (ex_pick_f (ev_b rfl hb1) rfl) <| PR.op (ex_asg rfl) <| PR.nil) fun q27 F27 => ?_
    refine st_end <| then_n ?_
    obtain rfl := some_ok H
    refine wp_ret ?_
    refine ret_gen (rs := [.tmp 2]) (vs := [.bool false]) F27 (by rfl) ⟨_, _, rfl, RV.tmp rfl, rfl⟩ ⟨_, rfl, ⟨rfl, s9.drop.drop.drop.drop.drop.drop.drop.drop.drop⟩⟩
  ·replace H := ite_f hb0 H
   refine st_gskip F14 rfl rfl (look_b rfl hb0) Bool.noConfusion rfl rfl fun q29 F28 => ?_
   refine st_gskip F28 rfl rfl (look_b rfl hb0) Bool.noConfusion rfl rfl fun q30 F30 => ?_
   refine st_gskip F30 rfl rfl (look_b rfl hb0) Bool.noConfusion rfl rfl fun q31 F31 => ?_
   refine st_pr F31 (PR.op (ex_pick_f (ev_b rfl hb0) rfl) <| PR.op (ex_move rfl) <| PR.nil) fun q32 F32 => ?_
   refine st_gskip F32 rfl rfl rfl Bool.noConfusion rfl rfl fun q34 F33 => ?_
   refine st_gskip F33 rfl rfl rfl Bool.noConfusion rfl rfl fun q35 F35 => ?_
   refine st_gskip F35 rfl rfl rfl Bool.noConfusion rfl rfl fun q36 F36 => ?_
   refine st_pr F36 (PR.op (ex_pick_f rfl rfl) <| PR.op (ex_asg rfl) <| PR.nil) fun q37 F37 => ?_
   refine st_end <| then_n ?_
   obtain rfl := some_ok H
   refine wp_ret ?_
   refine ret_gen (rs := [.tmp 2]) (vs := [.bool false]) F37 (by rfl) ⟨_, _, rfl, RV.tmp rfl, rfl⟩ ⟨_, rfl, ⟨rfl, s8.drop.drop.drop.drop.drop.drop.drop.drop.drop⟩⟩
end Go.Proofs.Ytmeodoidfpcjlaa
