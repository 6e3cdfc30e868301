/- Walks, merged. -/
import Derived.Test.YtmeodoidfpcjlaaW6b
set_option linter.unusedVariables false
set_option linter.unusedSimpArgs false
namespace Go.Proofs.Ytmeodoidfpcjlaa
open Go Go.RowKit Go.Pv
-- The walk of proviso/provisoref19.left.
theorem provisoref19_left_c {w : World} {v0 v1 : Value} {a0 : List S_provisoref19_ins} {a1 : List Bool} {r : (List S_provisoref19_ins)} (hr0 : Rd T_provisoref19_ins w [] v0 a0) (hr1 : Rd Ty.bool w [] v1 a1) (H : provisoref19_left a0 a1 = some r) :
  Calls Try.prog 103 #[v0, v1] w (Ret fun u_ w_ => ∃ u0 : Value, u_ = u0 ∧ SL w [] w_ [Sl T_provisoref19_ins u0 r]) := by
 have s0 : SL w [] w [] := SL.init0 w
 refine call_enter Try.func103 rfl Try.ntmps103 (Nat.le_of_ble_eq_true rfl) (args := [v0, v1]) fun q0 F0 => ?_
 unfold provisoref19_left at H
 refine wp_seq <| wp_reg ?_
 refine st_pr F0 (PR.op (ex_asg rfl) <| PR.nil) fun q3 F4 => ?_
 refine st_end <| then_n <| wp_seq <| wp_reg ?_
 obtain ⟨x17, hx18, H⟩ := bind_ok H
 refine st_pr F4 (PR.op (ex_move rfl) <| PR.op (ex_len rfl Try.underlying126 (formL (rdL hr0 s0))) <| PR.nil) fun q19 F20 => ?_
 refine st_make (Flat.int .i64) (0 : Int) F20 s0 Fx.sl57 rfl rfl Fx.zero3 rfl rfl rfl hx18 rfl fun v21 w22 q23 F24 s25 => ?_
 refine st_pr F24 (PR.op (ex_asg rfl) <| PR.nil) fun q27 F28 => ?_
 refine st_end <| then_n <| wp_seq <| wp_reg ?_
 refine st_pr F28 (PR.op (ex_asg rfl) <| PR.nil) fun q31 F32 => ?_
 refine st_end <| then_n <| wp_seq <| wp_seq <| wp_reg ?_
 refine st_pr F32 (PR.op (ex_move rfl) <| PR.op (ex_len rfl Try.underlying126 (formL (rdL hr0 s25))) <| PR.op (ex_move rfl) <| PR.nil) fun q1 F1 => ?_
 refine st_end <| then_n ?_
 obtain ⟨o0, H0, R0⟩ := bind_ok H
 clear H
 refine wp_cutn (fun a w_ => ∃ v2 : Value, Fr a 58 [(0, v0), (1, v1), (5, v2)] ∧ SL w [] w_ [Sl (Ty.int .i64) v2 o0]) ?_ ?_
 ·have H := H0
  refine wp_block ?_
  refine wp_lp (provisoref19_left_b0 a0 a1) (fun s1 a w_ => ∃ v3 : Value, Fr a 58 [(0, v0), (1, v1), (5, v3), (6, .int .i64 s1.2.1), (15, .int .i64 (a0.length : Int)), (16, .int .i64 s1.2.2)] ∧ SL w [] w_ [Sl (Ty.int .i64) v3 s1.1]) H ?_ ?_
  ·exact ⟨v21, F1.sub ⟨rfl, rfl, rfl, rfl, rfl, rfl, trivial⟩, s25⟩
  ·intro s1 q2 w0 hI0 o1 H hr
   obtain ⟨v3, F2, s2⟩ := hI0
   replace H : provisoref19_left_b0 a0 a1 s1 = some o1 := H
   unfold provisoref19_left_b0 at H
   refine wp_seq <| wp_reg ?_
   refine st_pr F2 (PR.op (ex_lt rfl rfl) <| PR.nil) fun q4 F3 => ?_
   refine st_end <| then_n <| wp_seq ?_
   refine wp_if F3 rfl (fun hb0 => ?_) (fun hb0 => ?_)
   ·replace H := ite_t hb0 H
    refine wp_skip <| then_n <| wp_seq <| wp_block <| wp_seq <| wp_reg ?_
    refine st_pr F3 (PR.op (ex_move rfl) <| PR.op (ex_asg rfl) <| PR.nil) fun q5 F5 => ?_
    refine st_end <| then_n <| wp_seq <| wp_reg ?_
    obtain ⟨x0, hx0, H⟩ := bind_ok H
    obtain ⟨a2, hi0, he0⟩ := own_idx (Flat.int .i64) s2 (.head _) Fx.sl57 rfl hx0
    refine st_pr F5 (PR.op (ex_move rfl) <| PR.op (ex_move rfl) <| PR.op (ex_move rfl) <| PR.op (hi0 _ _ _ _ _ _ _ _ _ _ rfl rfl) <| PR.nil) fun q6 F6 => ?_
    refine st_setel (y' := s1.2.1) (Flat.int .i64) F6 s2 he0 hx0 rfl rfl (by rfl) Fx.sz3 fun w1 q7 F7 s3 => ?_
    refine st_end <| then_n <| wp_seq <| wp_reg ?_
    obtain ⟨x1, hx1, H⟩ := bind_ok H
    obtain ⟨a3, hi1, hc0⟩ := idxL Flat.bool (rdL hr1 s3) Fx.sl93 rfl hx1
    refine st_pr F7 (PR.op (ex_move rfl) <| PR.op (ex_move rfl) <| PR.op (hi1 _ _ _ _ _ _ _ _ _ _ rfl rfl) <| PR.op (ex_ld Fx.nag4 rfl (Cells.at_ hc0 (o := 0) rfl)) <| PR.op (ex_not rfl) <| PR.nil) fun q8 F8 => ?_
    refine st_end <| then_n ?_
    refine wp_if F8 rfl (fun hb1 => ?_) (fun hb1 => ?_)
    ·replace H := ite_t hb1 H
     refine wp_reg ?_
     refine st_pr F8 (PR.op (ex_move rfl) <| PR.op (ex_add rfl rfl) <| PR.op (ex_asg rfl) <| PR.nil) fun q9 F9 => ?_
     refine st_end ?_
     refine blk_n ?_
     refine then_n <| wp_reg ?_
     refine st_pr F9 (PR.op (ex_add rfl rfl) <| PR.op (ex_move rfl) <| PR.nil) fun q10 F10 => ?_
     refine st_end ?_
     obtain rfl := some_ok H
     refine then_n ?_
     exact ⟨_, rfl, v3, F10.sub ⟨rfl, rfl, rfl, rfl, rfl, rfl, trivial⟩, s3⟩
    ·replace H := ite_f hb1 H
     refine wp_skip ?_
     refine blk_n ?_
     refine then_n <| wp_reg ?_
     refine st_pr F8 (PR.op (ex_add rfl rfl) <| PR.op (ex_move rfl) <| PR.nil) fun q11 F11 => ?_
     refine st_end ?_
     obtain rfl := some_ok H
     refine then_n ?_
     exact ⟨_, rfl, v3, F11.sub ⟨rfl, rfl, rfl, rfl, rfl, rfl, trivial⟩, s3⟩
   ·replace H := ite_f hb0 H
    refine wp_exit <| then_x <| then_x <| blk_hit ?_
    obtain rfl := some_ok H
    obtain rfl := hr _ rfl
    refine then_n ?_
    exact ⟨v3, F3.sub ⟨rfl, rfl, rfl, trivial⟩, s2⟩
 ·intro q12 w2 hJ
  obtain ⟨v2, F12, s4⟩ := hJ
  have H := R0
  clear R0 H0
  refine then_n <| wp_seq <| wp_reg ?_
  refine st_pr F12 (PR.op (ex_asg rfl) <| PR.nil) fun q13 F13 => ?_
  refine st_end <| then_n <| wp_seq <| wp_seq <| wp_reg ?_
  refine st_pr F13 (PR.op (ex_move rfl) <| PR.op (ex_len rfl Try.underlying126 (formL (rdL hr0 s4))) <| PR.op (ex_move rfl) <| PR.nil) fun q14 F14 => ?_
  refine st_end <| then_n ?_
  obtain ⟨o2, H1, R1⟩ := bind_ok H
  clear H
  refine wp_cutn (fun a w_ => ∃ v4 : Value, Fr a 58 [(8, v4)] ∧ SL w [] w_ [Sl T_provisoref19_ins v4 o2]) ?_ ?_
  ·have H := H1
   refine wp_block ?_
   refine wp_lp (provisoref19_left_b1 a0 a1 o0) (fun s5 a w_ => ∃ v5 : Value, Fr a 58 [(1, v1), (5, v2), (8, v5), (31, v0), (32, .int .i64 (a0.length : Int)), (33, .int .i64 s5.2)] ∧ SL w [] w_ [Sl (Ty.int .i64) v2 o0, Sl T_provisoref19_ins v5 s5.1]) H ?_ ?_
   ·exact ⟨(.slice none 0 0), F14.sub ⟨rfl, rfl, rfl, rfl, rfl, rfl, trivial⟩, (SL.nilSl (T := T_provisoref19_ins) s4).f1⟩
   ·intro s5 q15 w3 hI1 o3 H hr
    obtain ⟨v5, F15, s6⟩ := hI1
    replace H : provisoref19_left_b1 a0 a1 o0 s5 = some o3 := H
    unfold provisoref19_left_b1 at H
    refine wp_seq <| wp_reg ?_
    refine st_pr F15 (PR.op (ex_lt rfl rfl) <| PR.nil) fun q16 F16 => ?_
    refine st_end <| then_n <| wp_seq ?_
    refine wp_if F16 rfl (fun hb2 => ?_) (fun hb2 => ?_)
    ·replace H := ite_t hb2 H
     refine wp_skip <| then_n <| wp_seq <| wp_block <| wp_seq <| wp_reg ?_
     obtain ⟨x2, hx2, H⟩ := bind_ok H
     obtain ⟨a4, hi2, hc1⟩ := idxL F_provisoref19_ins (rdL hr0 s6) Fx.sl126 rfl hx2
     refine st_pr F16 (PR.op (ex_move rfl) <| PR.op (hi2 _ _ _ _ _ _ _ _ _ _ rfl rfl) <| PR.op (ex_ldagg Fx.agg156 rfl hc1 rfl) <| PR.nil) fun q17 F17 => ?_
     refine st_alloc F17 s6 Fx.zero156 rfl rfl fun g0 w4 q18 F18 s7 => ?_
     refine st_pr F18 (PR.op (ex_asg rfl) <| PR.nil) fun q20 F19 => ?_
     have s8 := s7
     refine st_storea F19 s8 rfl rfl Fx.sz156 (one_cons rfl (one_cons rfl (one_cons rfl (one_cons rfl one_nil)))) (Nat.le_of_ble_eq_true rfl) fun w5 q21 F21 s9 => ?_
     replace s9 : SL w [] w5 [Blk g0 156 [.int .u8 (x2.op.toNat : Int), .int .i64 x2.a, .int .i64 x2.b, .int .i64 x2.to], Sl (Ty.int .i64) v2 o0, Sl T_provisoref19_ins v5 s5.1] := s9
     refine st_end <| then_n <| wp_seq <| wp_seq <| wp_reg ?_
     refine st_pr F21 (PR.op (ex_fab Fx.fa156_3 rfl rfl) <| PR.op (ex_ld Fx.nag3 rfl (s9.blk_cell (.head _) rfl)) <| PR.op (ex_ge rfl rfl) <| PR.nil) fun q22 F22 => ?_
     refine st_end <| then_n ?_
     refine wp_if F22 rfl (fun hb3 => ?_) (fun hb3 => ?_)
     ·replace H := ite_t hb3 H
      refine wp_reg ?_
      obtain ⟨x3, hx3, H⟩ := bind_ok H
      obtain ⟨a5, hi3, he1⟩ := own_idx (Flat.int .i64) s9 (.tail _ <| .head _) Fx.sl57 rfl hx3
      refine st_pr F22 (PR.op (ex_move rfl) <| PR.op (ex_fab Fx.fa156_3 rfl rfl) <| PR.op (ex_ld Fx.nag3 rfl (s9.blk_cell (.head _) rfl)) <| PR.op (hi3 _ _ _ _ _ _ _ _ _ _ rfl rfl) <| PR.op (ex_ld Fx.nag3 rfl (Cells.at_ (SL.elcells (Flat.int .i64) s9 (.tail _ <| .head _) he1 hx3) (o := 0) rfl)) <| PR.op (ex_fab Fx.fa156_3 rfl rfl) <| PR.nil) fun q24 F23 => ?_
      have s10 := s9
      refine st_store F23 s10 rfl rfl Fx.sz3 rfl rfl rfl fun w6 q25 F25 s11 => ?_
      replace s11 : SL w [] w6 [Blk g0 156 [.int .u8 (x2.op.toNat : Int), .int .i64 x2.a, .int .i64 x2.b, .int .i64 x3], Sl (Ty.int .i64) v2 o0, Sl T_provisoref19_ins v5 s5.1] := s11
      refine st_end <| then_n <| wp_seq <| wp_reg ?_
      obtain ⟨x4, hx4, H⟩ := bind_ok H
      obtain ⟨a6, hi4, hc2⟩ := idxL Flat.bool (rdL hr1 s11) Fx.sl93 rfl hx4
      refine st_pr F25 (PR.op (ex_move rfl) <| PR.op (ex_move rfl) <| PR.op (hi4 _ _ _ _ _ _ _ _ _ _ rfl rfl) <| PR.op (ex_ld Fx.nag4 rfl (Cells.at_ hc2 (o := 0) rfl)) <| PR.op (ex_not rfl) <| PR.nil) fun q26 F26 => ?_
      refine st_end <| then_n ?_
      refine wp_if F26 rfl (fun hb4 => ?_) (fun hb4 => ?_)
      ·replace H := ite_t hb4 H
       refine wp_reg ?_
       refine st_pr F26 (PR.op (ex_move rfl) <| PR.op (ex_ldagg Fx.agg156 rfl (s11.blk_cells (.head _) (o := 0) (ds := [.int .u8 (x2.op.toNat : Int), .int .i64 x2.a, .int .i64 x2.b, .int .i64 x3]) (fun j u hu => by rw [Nat.zero_add]; exact hu)) rfl) <| PR.nil) fun q28 F27 => ?_
       refine st_bslice (parts := [(0, .tmp 53)]) F_provisoref19_ins ([(⟨x2.op, x2.a, x2.b, x3⟩ : S_provisoref19_ins)] : List S_provisoref19_ins) F27 s11 Fx.sl126 rfl (by decide) rfl rfl rfl (by simp [Value.cells]) rfl rfl rfl fun v6 w7 q29 F29 s12 => ?_
       obtain ⟨x5, hx5, H⟩ := bind_ok H
       have s13 := s12.f3
       obtain ⟨_, hr_⟩ := (s13.own_rd (.tail _ <| .head _))
       refine st_append_rd F_provisoref19_ins F29 s13 Fx.sl126 rfl rfl rfl rfl hr_ rfl rfl hx5 rfl fun v7 w8 q30 F30 s14 => ?_
       have s9628' := s14.f1.drop
       refine st_pr F30 (PR.op (ex_asg rfl) <| PR.nil) fun q32 F31 => ?_
       refine st_end ?_
       refine blk_n ?_
       refine then_n <| wp_reg ?_
       refine st_pr F31 (PR.op (ex_add rfl rfl) <| PR.op (ex_move rfl) <| PR.nil) fun q33 F33 => ?_
       refine st_end ?_
       obtain rfl := some_ok H
       refine then_n ?_
       exact ⟨_, rfl, v7, F33.sub ⟨rfl, rfl, rfl, rfl, rfl, rfl, trivial⟩, s9628'.f1.drop.f1⟩
      ·replace H := ite_f hb4 H
       refine wp_skip ?_
       refine blk_n ?_
       refine then_n <| wp_reg ?_
       refine st_pr F26 (PR.op (ex_add rfl rfl) <| PR.op (ex_move rfl) <| PR.nil) fun q34 F34 => ?_
       refine st_end ?_
       obtain rfl := some_ok H
       refine then_n ?_
       exact ⟨_, rfl, v5, F34.sub ⟨rfl, rfl, rfl, rfl, rfl, rfl, trivial⟩, s11.drop⟩
     ·replace H := ite_f hb3 H
      refine wp_skip <| then_n <| wp_seq <| wp_reg ?_
      obtain ⟨x6, hx6, H⟩ := bind_ok H
      obtain ⟨a7, hi5, hc3⟩ := idxL Flat.bool (rdL hr1 s9) Fx.sl93 rfl hx6
      refine st_pr F22 (PR.op (ex_move rfl) <| PR.op (ex_move rfl) <| PR.op (hi5 _ _ _ _ _ _ _ _ _ _ rfl rfl) <| PR.op (ex_ld Fx.nag4 rfl (Cells.at_ hc3 (o := 0) rfl)) <| PR.op (ex_not rfl) <| PR.nil) fun q35 F35 => ?_
      refine st_end <| then_n ?_
      refine wp_if F35 rfl (fun hb5 => ?_) (fun hb5 => ?_)
      ·replace H := ite_t hb5 H
       refine wp_reg ?_
       refine st_pr F35 (PR.op (ex_move rfl) <| PR.op (ex_ldagg Fx.agg156 rfl (s9.blk_cells (.head _) (o := 0) (ds := [.int .u8 (x2.op.toNat : Int), .int .i64 x2.a, .int .i64 x2.b, .int .i64 x2.to]) (fun j u hu => by rw [Nat.zero_add]; exact hu)) rfl) <| PR.nil) fun q36 F36 => ?_
       refine st_bslice (parts := [(0, .tmp 53)]) F_provisoref19_ins ([(⟨x2.op, x2.a, x2.b, x2.to⟩ : S_provisoref19_ins)] : List S_provisoref19_ins) F36 s9 Fx.sl126 rfl (by decide) rfl rfl rfl (by simp [Value.cells]) rfl rfl rfl fun v8 w9 q37 F37 s15 => ?_
       obtain ⟨x7, hx7, H⟩ := bind_ok H
       have s16 := s15.f3
       obtain ⟨_, hr_⟩ := (s16.own_rd (.tail _ <| .head _))
       refine st_append_rd F_provisoref19_ins F37 s16 Fx.sl126 rfl rfl rfl rfl hr_ rfl rfl hx7 rfl fun v9 w10 q38 F38 s17 => ?_
       have s9665' := s17.f1.drop
       refine st_pr F38 (PR.op (ex_asg rfl) <| PR.nil) fun q39 F39 => ?_
       refine st_end ?_
       refine blk_n ?_
       refine then_n <| wp_reg ?_
       refine st_pr F39 (PR.op (ex_add rfl rfl) <| PR.op (ex_move rfl) <| PR.nil) fun q40 F40 => ?_
       refine st_end ?_
       obtain rfl := some_ok H
       refine then_n ?_
       exact ⟨_, rfl, v9, F40.sub ⟨rfl, rfl, rfl, rfl, rfl, rfl, trivial⟩, s9665'.f1.drop.f1⟩
      ·replace H := ite_f hb5 H
       refine wp_skip ?_
       refine blk_n ?_
       refine then_n <| wp_reg ?_
       refine st_pr F35 (PR.op (ex_add rfl rfl) <| PR.op (ex_move rfl) <| PR.nil) fun q41 F41 => ?_
       refine st_end ?_
       obtain rfl := some_ok H
       refine then_n ?_
       exact ⟨_, rfl, v5, F41.sub ⟨rfl, rfl, rfl, rfl, rfl, rfl, trivial⟩, s9.drop⟩
    ·replace H := ite_f hb2 H
     refine wp_exit <| then_x <| then_x <| blk_hit ?_
     obtain rfl := some_ok H
     obtain rfl := hr _ rfl
     refine then_n ?_
     exact ⟨v5, F16.sub ⟨rfl, trivial⟩, s6.drop⟩
  ·intro q42 w11 hJ
   obtain ⟨v4, F42, s18⟩ := hJ
   have H := R1
   clear R1 H1
   refine then_n <| wp_seq <| wp_reg ?_
   refine st_pr F42 (PR.op (ex_move rfl) <| PR.op (ex_asg rfl) <| PR.nil) fun q43 F43 => ?_
   refine st_end <| then_n ?_
   obtain rfl := some_ok H
   refine wp_ret ?_
   refine ret_gen (rs := [.tmp 4]) (vs := [v4]) F43 (by rfl) ⟨_, _, rfl, RV.tmp rfl, rfl⟩ ⟨_, rfl, ⟨v4, rfl, s18⟩⟩
-- The walk of proviso/provisoref19.sure.
theorem provisoref19_sure_c {w : World} {v0 : Value} {a0 : List S_provisoref19_ins} {r : (List S_provisoref19_ins)} (hr0 : Rd T_provisoref19_ins w [] v0 a0) (H : provisoref19_sure a0 = some r) :
  Calls Try.prog 74 #[v0] w (Ret fun u_ w_ => ∃ u0 : Value, u_ = u0 ∧ SL w [] w_ [Sl T_provisoref19_ins u0 r]) := by
 have s0 : SL w [] w [] := SL.init0 w
 refine call_enter Try.func74 rfl Try.ntmps74 (Nat.le_of_ble_eq_true rfl) (args := [v0]) fun q0 F0 => ?_
 unfold provisoref19_sure at H
 refine wp_seq <| wp_reg ?_
 refine st_pr F0 (PR.op (ex_asg rfl) <| PR.nil) fun q3 F4 => ?_
 refine st_end <| then_n <| wp_seq <| wp_reg ?_
 obtain ⟨x20, hx21, H⟩ := bind_ok H
 refine st_pr F4 (PR.op (ex_move rfl) <| PR.nil) fun q22 F23 => ?_
 refine st_call (args := [.tmp 7]) F23 Fx.fn102 rfl (provisoref19_led_c (a0 := a0)  (hr0.pass0 s0) hx21) rfl fun v24 w25 q26 hS28 F27 => ?_
 obtain ⟨_, rfl, hq30⟩ := hS28
 have s29 := s0.add hq30
 refine st_pr F27 (PR.op (ex_asg rfl) <| PR.nil) fun q33 F34 => ?_
 refine st_end <| then_n <| wp_seq <| wp_reg ?_
 obtain ⟨x47, hx48, H⟩ := bind_ok H
 refine st_pr F34 (PR.op (ex_move rfl) <| PR.op (ex_len rfl Try.underlying126 (formL (rdL hr0 s29))) <| PR.nil) fun q49 F50 => ?_
 refine st_make Flat.bool false F50 s29 Fx.sl93 rfl rfl Fx.zero4 rfl rfl rfl hx48 rfl fun v51 w52 q53 F54 s55 => ?_
 refine st_pr F54 (PR.op (ex_asg rfl) <| PR.nil) fun q57 F58 => ?_
 refine st_end <| then_n <| wp_seq <| wp_reg ?_
 refine st_bslice (parts := []) F_provisoref19_ins ([] : List S_provisoref19_ins) F58 s55 Fx.sl126 rfl (by decide) rfl rfl rfl (by simp [Value.cells]) rfl rfl rfl fun v77 w78 q79 F80 s81 => ?_
 obtain ⟨x83, hx84, H⟩ := bind_ok H
 refine st_pr F80 (PR.op (ex_move rfl) <| PR.nil) fun q85 F86 => ?_
 have s92 := s81
 obtain ⟨_, hr_⟩ := (rdL hr0 s92)
 refine st_append_rd F_provisoref19_ins F86 s92 Fx.sl126 rfl rfl rfl rfl hr_ rfl rfl hx84 rfl fun v87 w88 q89 F90 s91 => ?_
 refine st_pr F90 (PR.op (ex_asg rfl) <| PR.nil) fun q93 F94 => ?_
 refine st_end <| then_n <| wp_seq <| wp_seq <| wp_reg ?_
 refine st_pr F94 (PR.op (ex_asg rfl) <| PR.nil) fun q1 F1 => ?_
 refine st_end <| then_n ?_
 obtain ⟨o0, H0, R0⟩ := bind_ok H
 clear H
 refine wp_cutn (fun a w_ => ∃ v1 v2 : Value, Fr a 72 [(4, v1), (5, v2)] ∧ SL w [] w_ [Sl Ty.bool v1 o0.1, Sl T_provisoref19_ins v2 o0.2]) ?_ ?_
 ·have H := H0
  refine wp_block ?_
  refine wp_lp (provisoref19_sure_b0 a0 x20) (fun s1 a w_ => ∃ v3 v4 : Value, Fr a 72 [(0, v0), (3, v24), (4, v3), (5, v4), (6, .int .i64 s1.2.2)] ∧ SL w [] w_ [Sl Ty.bool v24 x20, Sl Ty.bool v3 s1.1, Sl T_provisoref19_ins v4 s1.2.1]) H ?_ ?_
  ·exact ⟨v51, v87, F1.sub ⟨rfl, rfl, rfl, rfl, rfl, trivial⟩, s91.f1.f2⟩
  ·intro s1 q2 w0 hI0 o1 H hr
   obtain ⟨v3, v4, F2, s2⟩ := hI0
   replace H : provisoref19_sure_b0 a0 x20 s1 = some o1 := H
   unfold provisoref19_sure_b0 at H
   refine wp_seq <| wp_seq <| wp_reg ?_
   refine st_pr F2 (PR.op (ex_move rfl) <| PR.op (ex_add rfl rfl) <| PR.op (ex_move rfl) <| PR.op (ex_len rfl Try.underlying126 (formL (rdL hr0 s2))) <| PR.op (ex_lt rfl rfl) <| PR.nil) fun q4 F3 => ?_
   refine st_end <| then_n ?_
   refine wp_if F3 rfl (fun hb0 => ?_) (fun hb0 => ?_)
   ·replace H := ite_t hb0 H
    refine wp_skip <| then_n <| wp_seq <| wp_block <| wp_seq <| wp_seq <| wp_reg ?_
    obtain ⟨x0, hx0, H⟩ := bind_ok H
    obtain ⟨a2, hi0, hc0⟩ := idxL F_provisoref19_ins (rdL hr0 s2) Fx.sl126 rfl hx0
    refine st_pr F3 (PR.op (ex_move rfl) <| PR.op (ex_move rfl) <| PR.op (hi0 _ _ _ _ _ _ _ _ _ _ rfl rfl) <| PR.op (ex_fa Fx.fa156_0 rfl) <| PR.op (ex_ld Fx.nag5 rfl (Cells.at_ hc0 (o := 0) rfl)) <| PR.op (ex_ne rfl rfl) <| PR.op (ex_move rfl) <| PR.nil) fun q5 F5 => ?_
    refine bool_split ((x0.op.toNat : Int) != 2) (fun hb1 => ?_) (fun hb1 => ?_)
    ·replace H := ite_t hb1 H
     refine st_gskip F5 rfl rfl (look_b rfl hb1) Bool.noConfusion rfl rfl fun q6 F6 => ?_
     refine st_gskip F6 rfl rfl (look_b rfl hb1) Bool.noConfusion rfl rfl fun q7 F7 => ?_
     refine st_gskip F7 rfl rfl (look_b rfl hb1) Bool.noConfusion rfl rfl fun q8 F8 => ?_
     refine st_gskip F8 rfl rfl (look_b rfl hb1) Bool.noConfusion rfl rfl fun q9 F9 => ?_
     refine st_gskip F9 rfl rfl (look_b rfl hb1) Bool.noConfusion rfl rfl fun q10 F10 => ?_
     refine st_gskip F10 rfl rfl (look_b rfl hb1) Bool.noConfusion rfl rfl fun q11 F11 => ?_
     refine st_gskip F11 rfl rfl (look_b rfl hb1) Bool.noConfusion rfl rfl fun q12 F12 => ?_
     refine st_pr F12 (PR.op (ex_pick_t (ev_b rfl hb1) rfl) <| PR.op (ex_move rfl) <| PR.nil) fun q13 F13 => ?_
     refine st_gskip F13 rfl rfl rfl Bool.noConfusion rfl rfl fun q14 F14 => ?_
     refine st_gskip F14 rfl rfl rfl Bool.noConfusion rfl rfl fun q15 F15 => ?_
     refine st_gskip F15 rfl rfl rfl Bool.noConfusion rfl rfl fun q16 F16 => ?_
     refine st_gskip F16 rfl rfl rfl Bool.noConfusion rfl rfl fun q17 F17 => ?_
     refine st_gskip F17 rfl rfl rfl Bool.noConfusion rfl rfl fun q18 F18 => ?_
     refine st_pr F18 (PR.op (ex_pick_t rfl rfl) <| PR.nil) fun q19 F19 => ?_
     refine st_end <| then_n ?_
     refine wp_if_t F19 rfl ?_
     refine wp_exit <| then_x <| blk_hit <| then_n <| wp_reg ?_
     refine st_pr F19 (PR.op (ex_move rfl) <| PR.op (ex_add rfl rfl) <| PR.op (ex_asg rfl) <| PR.nil) fun q20 F20 => ?_
     refine st_end ?_
     obtain rfl := some_ok H
     refine then_n ?_
     exact ⟨_, rfl, v3, v4, F20.sub ⟨rfl, rfl, rfl, rfl, rfl, trivial⟩, s2⟩
    ·replace H := ite_f hb1 H
     refine st_gop F5 rfl rfl (look_b rfl hb1) (ex_move rfl) rfl rfl fun q21 F21 => ?_
     refine st_gop F21 rfl rfl (look_b rfl hb1) (ex_move rfl) rfl rfl fun q23 F22 => ?_
     refine st_gop F22 rfl rfl (look_b rfl hb1) (ex_add rfl rfl) rfl rfl fun q24 F24 => ?_
     obtain ⟨x1, hx1, H⟩ := bind_ok H
     obtain ⟨a3, hi1, hc1⟩ := idxL F_provisoref19_ins (rdL hr0 s2) Fx.sl126 rfl hx1
     refine st_gop F24 rfl rfl (look_b rfl hb1) (hi1 _ _ _ _ _ _ _ _ _ _ rfl rfl) rfl rfl fun q25 F25 => ?_
     refine st_gop F25 rfl rfl (look_b rfl hb1) (ex_fa Fx.fa156_0 rfl) rfl rfl fun q27 F26 => ?_
     refine st_gop F26 rfl rfl (look_b rfl hb1) (ex_ld Fx.nag5 rfl (Cells.at_ hc1 (o := 0) rfl)) rfl rfl fun q28 F28 => ?_
     refine st_gop F28 rfl rfl (look_b rfl hb1) (ex_ne rfl rfl) rfl rfl fun q29 F29 => ?_
     refine st_pr F29 (PR.op (ex_pick_f (ev_b rfl hb1) rfl) <| PR.op (ex_move rfl) <| PR.nil) fun q30 F30 => ?_
     refine bool_split ((x1.op.toNat : Int) != 20) (fun hb2 => ?_) (fun hb2 => ?_)
     ·replace H := ite_t hb2 H
      refine st_gskip F30 rfl rfl (look_b rfl hb2) Bool.noConfusion rfl rfl fun q31 F31 => ?_
      refine st_gskip F31 rfl rfl (look_b rfl hb2) Bool.noConfusion rfl rfl fun q32 F32 => ?_
      refine st_gskip F32 rfl rfl (look_b rfl hb2) Bool.noConfusion rfl rfl fun q34 F33 => ?_
      refine st_gskip F33 rfl rfl (look_b rfl hb2) Bool.noConfusion rfl rfl fun q35 F35 => ?_
      refine st_gskip F35 rfl rfl (look_b rfl hb2) Bool.noConfusion rfl rfl fun q36 F36 => ?_
      refine st_pr F36 (PR.op (ex_pick_t (ev_b rfl hb2) rfl) <| PR.nil) fun q37 F37 => ?_
      refine st_end <| then_n ?_
      refine wp_if_t F37 rfl ?_
      refine wp_exit <| then_x <| blk_hit <| then_n <| wp_reg ?_
      refine st_pr F37 (PR.op (ex_move rfl) <| PR.op (ex_add rfl rfl) <| PR.op (ex_asg rfl) <| PR.nil) fun q38 F38 => ?_
      refine st_end ?_
      obtain rfl := some_ok H
      refine then_n ?_
      exact ⟨_, rfl, v3, v4, F38.sub ⟨rfl, rfl, rfl, rfl, rfl, trivial⟩, s2⟩
     ·replace H := ite_f hb2 H
      refine st_gop F30 rfl rfl (look_b rfl hb2) (ex_move rfl) rfl rfl fun q39 F39 => ?_
      refine st_gop F39 rfl rfl (look_b rfl hb2) (ex_move rfl) rfl rfl fun q40 F40 => ?_
      refine st_gop F40 rfl rfl (look_b rfl hb2) (ex_add rfl rfl) rfl rfl fun q41 F41 => ?_
      obtain ⟨x2, hx2, H⟩ := bind_ok H
      obtain ⟨a4, hi2, he0⟩ := own_idx Flat.bool s2 (.head _) Fx.sl93 rfl hx2
      refine st_gop F41 rfl rfl (look_b rfl hb2) (hi2 _ _ _ _ _ _ _ _ _ _ rfl rfl) rfl rfl fun q42 F42 => ?_
      refine st_gop F42 rfl rfl (look_b rfl hb2) (ex_ld Fx.nag4 rfl (Cells.at_ (SL.elcells Flat.bool s2 (.head _) he0 hx2) (o := 0) rfl)) rfl rfl fun q43 F43 => ?_
      refine st_pr F43 (PR.op (ex_pick_f (ev_b rfl hb2) rfl) <| PR.nil) fun q44 F44 => ?_
      refine st_end <| then_n ?_
      refine wp_if F44 rfl (fun hb3 => ?_) (fun hb3 => ?_)
      ·replace H := ite_t hb3 H
       refine wp_exit <| then_x <| blk_hit <| then_n <| wp_reg ?_
       refine st_pr F44 (PR.op (ex_move rfl) <| PR.op (ex_add rfl rfl) <| PR.op (ex_asg rfl) <| PR.nil) fun q45 F45 => ?_
       refine st_end ?_
       obtain rfl := some_ok H
       refine then_n ?_
       exact ⟨_, rfl, v3, v4, F45.sub ⟨rfl, rfl, rfl, rfl, rfl, trivial⟩, s2⟩
      ·replace H := ite_f hb3 H
       refine wp_skip <| then_n <| wp_seq <| wp_reg ?_
       obtain ⟨x3, hx3, H⟩ := bind_ok H
       obtain ⟨a5, hi3, he1⟩ := own_idx Flat.bool s2 (.tail _ <| .head _) Fx.sl93 rfl hx3
       refine st_pr F44 (PR.op (ex_move rfl) <| PR.op (ex_move rfl) <| PR.op (ex_add rfl rfl) <| PR.op (hi3 _ _ _ _ _ _ _ _ _ _ rfl rfl) <| PR.nil) fun q46 F46 => ?_
       refine st_setel (y' := true) Flat.bool F46 s2.f1 he1 hx3 rfl rfl (by rfl) Fx.sz4 fun w1 q47 F47 s3 => ?_
       refine st_end <| then_n <| wp_seq <| wp_seq <| wp_reg ?_
       obtain ⟨x4, hx4, H⟩ := bind_ok H
       obtain ⟨a6, hi4, hc2⟩ := idxL F_provisoref19_ins (rdL hr0 s3) Fx.sl126 rfl hx4
       refine st_pr F47 (PR.op (ex_move rfl) <| PR.op (ex_move rfl) <| PR.op (hi4 _ _ _ _ _ _ _ _ _ _ rfl rfl) <| PR.op (ex_fa Fx.fa156_1 rfl) <| PR.op (ex_ld Fx.nag3 rfl (Cells.at_ hc2 (o := 1) rfl)) <| PR.op (ex_eq rfl rfl) <| PR.nil) fun q48 F48 => ?_
       refine st_end <| then_n ?_
       refine wp_if F48 rfl (fun hb4 => ?_) (fun hb4 => ?_)
       ·replace H := ite_t hb4 H
        refine wp_reg ?_
        obtain ⟨x5, hx5, H⟩ := bind_ok H
        obtain ⟨a7, hi5, he2⟩ := own_idx Flat.bool s3 (.head _) Fx.sl93 rfl hx5
        refine st_pr F48 (PR.op (ex_move rfl) <| PR.op (ex_move rfl) <| PR.op (hi5 _ _ _ _ _ _ _ _ _ _ rfl rfl) <| PR.nil) fun q50 F49 => ?_
        refine st_setel (y' := true) Flat.bool F49 s3 he2 hx5 rfl rfl (by rfl) Fx.sz4 fun w2 q51 F51 s4 => ?_
        refine st_end <| then_n <| wp_reg ?_
        refine st_pr F51 (PR.op (ex_move rfl) <| PR.op (ex_add rfl rfl) <| PR.op (ex_asg rfl) <| PR.nil) fun q52 F52 => ?_
        refine st_end ?_
        refine blk_n ?_
        refine then_n <| wp_reg ?_
        refine st_pr F52 (PR.op (ex_move rfl) <| PR.op (ex_add rfl rfl) <| PR.op (ex_asg rfl) <| PR.nil) fun q54 F53 => ?_
        refine st_end ?_
        obtain rfl := some_ok H
        refine then_n ?_
        exact ⟨_, rfl, v3, v4, F53.sub ⟨rfl, rfl, rfl, rfl, rfl, trivial⟩, s4.f2.f1.f2⟩
       ·replace H := ite_f hb4 H
        refine wp_reg ?_
        obtain ⟨x6, hx6, H⟩ := bind_ok H
        obtain ⟨a8, hi6, hc3⟩ := idxL F_provisoref19_ins (rdL hr0 s3) Fx.sl126 rfl hx6
        obtain ⟨x7, hx7, H⟩ := bind_ok H
        obtain ⟨a9, hi7, he3⟩ := own_idx F_provisoref19_ins s3 (.tail _ <| .tail _ <| .head _) Fx.sl126 rfl hx7
        refine st_pr F48 (PR.op (ex_move rfl) <| PR.op (ex_move rfl) <| PR.op (ex_move rfl) <| PR.op (ex_move rfl) <| PR.op (ex_add rfl rfl) <| PR.op (hi6 _ _ _ _ _ _ _ _ _ _ rfl rfl) <| PR.op (ex_fa Fx.fa156_3 rfl) <| PR.op (ex_ld Fx.nag3 rfl (Cells.at_ hc3 (o := 3) rfl)) <| PR.op (ex_build (vs := [.int .u8 19, .int .i64 x6.to]) Fx.zero156 Fx.pl156 rfl (cs := [.int .u8 19, .int .i64 0, .int .i64 0, .int .i64 x6.to]) (rfl)) <| PR.op (hi7 _ _ _ _ _ _ _ _ _ _ rfl rfl) <| PR.nil) fun q55 F55 => ?_
        refine st_setel (y' := (⟨19, 0, 0, x6.to⟩ : S_provisoref19_ins)) F_provisoref19_ins F55 s3.f2 he3 hx7 rfl rfl (by rfl) Fx.sz156 fun w3 q56 F56 s5 => ?_
        refine st_end <| then_n <| wp_reg ?_
        refine st_pr F56 (PR.op (ex_move rfl) <| PR.op (ex_add rfl rfl) <| PR.op (ex_asg rfl) <| PR.nil) fun q58 F57 => ?_
        refine st_end ?_
        refine blk_n ?_
        refine then_n <| wp_reg ?_
        refine st_pr F57 (PR.op (ex_move rfl) <| PR.op (ex_add rfl rfl) <| PR.op (ex_asg rfl) <| PR.nil) fun q59 F59 => ?_
        refine st_end ?_
        obtain rfl := some_ok H
        refine then_n ?_
        exact ⟨_, rfl, v3, v4, F59.sub ⟨rfl, rfl, rfl, rfl, rfl, trivial⟩, s5.f1.f2⟩
   ·replace H := ite_f hb0 H
    refine wp_exit <| then_x <| then_x <| blk_hit ?_
    obtain rfl := some_ok H
    obtain rfl := hr _ rfl
    refine then_n ?_
    exact ⟨v3, v4, F3.sub ⟨rfl, rfl, trivial⟩, s2.drop⟩
 ·intro q60 w4 hJ
  obtain ⟨v1, v2, F60, s6⟩ := hJ
  have H := R0
  clear R0 H0
  refine then_n <| wp_seq <| wp_reg ?_
  obtain ⟨x8, hx8, H⟩ := bind_ok H
  refine st_pr F60 (PR.op (ex_move rfl) <| PR.op (ex_move rfl) <| PR.nil) fun q61 F61 => ?_
  refine st_call (args := [.tmp 69, .tmp 70]) F61 Fx.fn103 rfl (provisoref19_left_c (a0 := o0.2) (a1 := o0.1)  (s6.rd0 (.tail _ <| .head _)) (s6.rd0 (.head _)) hx8) rfl fun v5 w5 q62 hS0 F62 => ?_
  obtain ⟨_, rfl, hq0⟩ := hS0
  have s7 := s6.add hq0
  refine st_pr F62 (PR.op (ex_asg rfl) <| PR.nil) fun q63 F63 => ?_
  refine st_end <| then_n ?_
  obtain rfl := some_ok H
  refine wp_ret ?_
  refine ret_gen (rs := [.tmp 2]) (vs := [v5]) F63 (by rfl) ⟨_, _, rfl, RV.tmp rfl, rfl⟩ ⟨_, rfl, ⟨v5, rfl, s7.f1.drop.f1.drop⟩⟩
-- The walk of proviso/provisoref15.Wrap.
theorem provisoref15_Wrap_c {w : World} {a0 : Int} {r : Int}  (H : provisoref15_Wrap a0 = some r) :
  Calls Try.prog 117 #[.int .i64 a0] w (Ret fun u_ w_ => u_ = .int .i64 r ∧ SL w [] w_ []) := by
 have s0 : SL w [] w [] := SL.init0 w
 refine call_enter Try.func117 rfl Try.ntmps117 (Nat.le_of_ble_eq_true rfl) (args := [.int .i64 a0]) fun q0 F0 => ?_
 unfold provisoref15_Wrap at H
 refine wp_seq <| wp_reg ?_
 refine st_pr F0 (PR.op (ex_asg rfl) <| PR.nil) fun q3 F4 => ?_
 refine st_end <| then_n <| wp_seq <| wp_reg ?_
 refine st_pr F4 (PR.op (ex_move rfl) <| PR.op (ex_conv rfl Try.underlying3 Try.underlying21) <| PR.op (ex_conv rfl Try.underlying21 Try.underlying3) <| PR.op (ex_asg rfl) <| PR.nil) fun q7 F8 => ?_
 refine st_end <| then_n ?_
 obtain rfl := some_ok H
 refine wp_ret ?_
 refine ret_gen (rs := [.tmp 2]) (vs := [.int .i64 (wr (IntKind.i32.wrap a0))]) F8 (by rfl) ⟨_, _, rfl, RV.tmp rfl, rfl⟩ ⟨_, rfl, ⟨rfl, s0⟩⟩
-- The walk of proviso/provisoref19.truth.
theorem provisoref19_truth_c {w : World} {a0 : Bool} {r : S_provisoref19_ins}  (H : provisoref19_truth a0 = some r) :
  Calls Try.prog 118 #[.bool a0] w (Ret fun u_ w_ => u_ = .agg ⟨[.int .u8 (r.op.toNat : Int), .int .i64 r.a, .int .i64 r.b, .int .i64 r.to]⟩ ∧ SL w [] w_ []) := by
 have s0 : SL w [] w [] := SL.init0 w
 refine call_enter Try.func118 rfl Try.ntmps118 (Nat.le_of_ble_eq_true rfl) (args := [.bool a0]) fun q0 F0 => ?_
 unfold provisoref19_truth at H
 refine wp_seq <| wp_reg ?_
 refine st_alloc F0 s0 Fx.zero156 rfl rfl fun g7 w8 q9 F10 s11 => ?_
 refine st_end <| then_n <| wp_seq <| wp_reg ?_
 refine st_pr F10 (PR.op (ex_build (vs := [.int .u8 2, .int .i64 (-1)]) Fx.zero156 Fx.pl156 rfl (cs := [.int .u8 2, .int .i64 0, .int .i64 0, .int .i64 (-1)]) (rfl)) <| PR.nil) fun q26 F27 => ?_
 refine st_alloc F27 s11 Fx.zero156 rfl rfl fun g28 w29 q30 F31 s32 => ?_
 have s38 := s32
 refine st_storea F31 s38 rfl rfl Fx.sz156 (one_cons rfl (one_cons rfl (one_cons rfl (one_cons rfl one_nil)))) (Nat.le_of_ble_eq_true rfl) fun w34 q35 F36 s37 => ?_
 replace s37 : SL w [] w34 [Blk g28 156 [.int .u8 2, .int .i64 0, .int .i64 0, .int .i64 (-1)], Blk g7 156 [.int .u8 0, .int .i64 0, .int .i64 0, .int .i64 0]] := s37
 refine st_end <| then_n <| wp_seq <| wp_seq <| wp_reg ?_
 refine st_pr F36 (PR.op (ex_move rfl) <| PR.nil) fun q53 F54 => ?_
 refine st_end <| then_n ?_
 refine wp_if F54 rfl (fun hb55 => ?_) (fun hb55 => ?_)
 ·replace H := ite_t hb55 H
  refine wp_reg ?_
  refine st_pr F54 (PR.op (ex_fab Fx.fa156_1 rfl rfl) <| PR.nil) fun q56 F57 => ?_
  have s62 := s37
  refine st_store F57 s62 rfl rfl Fx.sz3 rfl rfl rfl fun w58 q59 F60 s61 => ?_
  replace s61 : SL w [] w58 [Blk g28 156 [.int .u8 2, .int .i64 1, .int .i64 0, .int .i64 (-1)], Blk g7 156 [.int .u8 0, .int .i64 0, .int .i64 0, .int .i64 0]] := s61
  refine st_end <| then_n <| wp_seq <| wp_reg ?_
  refine st_pr F60 (PR.op (ex_ldagg Fx.agg156 rfl (s61.blk_cells (.head _) (o := 0) (ds := [.int .u8 2, .int .i64 1, .int .i64 0, .int .i64 (-1)]) (fun j u hu => by rw [Nat.zero_add]; exact hu)) rfl) <| PR.nil) fun q70 F71 => ?_
  have s76 := s61.f1
  refine st_storea F71 s76 rfl rfl Fx.sz156 (one_cons rfl (one_cons rfl (one_cons rfl (one_cons rfl one_nil)))) (Nat.le_of_ble_eq_true rfl) fun w72 q73 F74 s75 => ?_
  replace s75 : SL w [] w72 [Blk g7 156 [.int .u8 2, .int .i64 1, .int .i64 0, .int .i64 (-1)], Blk g28 156 [.int .u8 2, .int .i64 1, .int .i64 0, .int .i64 (-1)]] := s75
  refine st_end <| then_n ?_
  obtain rfl := some_ok H
  refine wp_ret ?_
  refine ret_gen (rs := [.cell 2 156]) (vs := [.agg ⟨[.int .u8 2, .int .i64 1, .int .i64 0, .int .i64 (-1)]⟩]) F74 (by rfl) ⟨_, _, rfl, RV.blk s75 (.head _) rfl Fx.agg156 rfl, rfl⟩ ⟨_, rfl, ⟨rfl, s75.drop.drop⟩⟩
 ·replace H := ite_f hb55 H
  refine wp_skip <| then_n <| wp_seq <| wp_reg ?_
  refine st_pr F54 (PR.op (ex_ldagg Fx.agg156 rfl (s37.blk_cells (.head _) (o := 0) (ds := [.int .u8 2, .int .i64 0, .int .i64 0, .int .i64 (-1)]) (fun j u hu => by rw [Nat.zero_add]; exact hu)) rfl) <| PR.nil) fun q84 F85 => ?_
  have s90 := s37.f1
  refine st_storea F85 s90 rfl rfl Fx.sz156 (one_cons rfl (one_cons rfl (one_cons rfl (one_cons rfl one_nil)))) (Nat.le_of_ble_eq_true rfl) fun w86 q87 F88 s89 => ?_
  replace s89 : SL w [] w86 [Blk g7 156 [.int .u8 2, .int .i64 0, .int .i64 0, .int .i64 (-1)], Blk g28 156 [.int .u8 2, .int .i64 0, .int .i64 0, .int .i64 (-1)]] := s89
  refine st_end <| then_n ?_
  obtain rfl := some_ok H
  refine wp_ret ?_
  refine ret_gen (rs := [.cell 2 156]) (vs := [.agg ⟨[.int .u8 2, .int .i64 0, .int .i64 0, .int .i64 (-1)]⟩]) F88 (by rfl) ⟨_, _, rfl, RV.blk s89 (.head _) rfl Fx.agg156 rfl, rfl⟩ ⟨_, rfl, ⟨rfl, s89.drop.drop⟩⟩
-- The walk of proviso/provisoref19.three.
theorem provisoref19_three_c {w : World} {a0 : S_provisoref19_ins} {a1 : S_provisoref19_ins} {a2 : S_provisoref19_ins} {r : S_provisoref19_ins × Bool}  (H : provisoref19_three a0 a1 a2 = some r) :
  Calls Try.prog 104 #[.agg ⟨[.int .u8 (a0.op.toNat : Int), .int .i64 a0.a, .int .i64 a0.b, .int .i64 a0.to]⟩, .agg ⟨[.int .u8 (a1.op.toNat : Int), .int .i64 a1.a, .int .i64 a1.b, .int .i64 a1.to]⟩, .agg ⟨[.int .u8 (a2.op.toNat : Int), .int .i64 a2.a, .int .i64 a2.b, .int .i64 a2.to]⟩] w (Ret fun u_ w_ => u_ = .tuple ⟨[.agg ⟨[.int .u8 (r.1.op.toNat : Int), .int .i64 r.1.a, .int .i64 r.1.b, .int .i64 r.1.to]⟩, .bool r.2]⟩ ∧ SL w [] w_ []) := by
 have s0 : SL w [] w [] := SL.init0 w
 refine call_enter Try.func104 rfl Try.ntmps104 (Nat.le_of_ble_eq_true rfl) (args := [.agg ⟨[.int .u8 (a0.op.toNat : Int), .int .i64 a0.a, .int .i64 a0.b, .int .i64 a0.to]⟩, .agg ⟨[.int .u8 (a1.op.toNat : Int), .int .i64 a1.a, .int .i64 a1.b, .int .i64 a1.to]⟩, .agg ⟨[.int .u8 (a2.op.toNat : Int), .int .i64 a2.a, .int .i64 a2.b, .int .i64 a2.to]⟩]) fun q0 F0 => ?_
 unfold provisoref19_three at H
 refine wp_seq <| wp_reg ?_
 refine st_box F0 s0 rfl rfl rfl fun g27 w28 q29 F30 s31 => ?_
 refine st_box F30 s31 rfl rfl rfl fun g33 w34 q35 F36 s37 => ?_
 refine st_box F36 s37 rfl rfl rfl fun g39 w40 q41 F42 s43 => ?_
 refine st_alloc F42 s43 Fx.zero156 rfl rfl fun g45 w46 q47 F48 s49 => ?_
 refine st_pr F48 (PR.op (ex_asg rfl) <| PR.nil) fun q51 F52 => ?_
 refine st_end <| then_n <| wp_seq ?_
 obtain ⟨o0, H0, R0⟩ := bind_ok H
 clear H
 refine wp_cutn (fun a w_ => Fr a 99 [(3, .pointer (some ⟨g27, 0, none⟩)), (4, .pointer (some ⟨g33, 0, none⟩)), (5, .pointer (some ⟨g39, 0, none⟩)), (6, .pointer (some ⟨g45, 0, none⟩)), (8, .bool o0)] ∧ SL w [] w_ [Blk g45 156 [.int .u8 0, .int .i64 0, .int .i64 0, .int .i64 0], Blk g39 156 [.int .u8 (a2.op.toNat : Int), .int .i64 a2.a, .int .i64 a2.b, .int .i64 a2.to], Blk g33 156 [.int .u8 (a1.op.toNat : Int), .int .i64 a1.a, .int .i64 a1.b, .int .i64 a1.to], Blk g27 156 [.int .u8 (a0.op.toNat : Int), .int .i64 a0.a, .int .i64 a0.b, .int .i64 a0.to]]) ?_ ?_
 ·have H := H0
  refine wp_reg ?_
  refine st_pr F52 (PR.op (ex_fab Fx.fa156_0 rfl rfl) <| PR.op (ex_ld Fx.nag5 rfl (s49.blk_cell (.tail _ <| .tail _ <| .tail _ <| .head _) rfl)) <| PR.op (ex_eq rfl rfl) <| PR.op (ex_move rfl) <| PR.nil) fun q1 F1 => ?_
  refine bool_split ((a0.op.toNat : Int) == 1) (fun hb0 => ?_) (fun hb0 => ?_)
  ·replace H := ite_t hb0 H
   refine st_gop F1 rfl rfl (look_b rfl hb0) (ex_fab Fx.fa156_0 rfl rfl) rfl rfl fun q2 F2 => ?_
   refine st_gop F2 rfl rfl (look_b rfl hb0) (ex_ld Fx.nag5 rfl (s49.blk_cell (.tail _ <| .tail _ <| .head _) rfl)) rfl rfl fun q3 F3 => ?_
   refine st_gop F3 rfl rfl (look_b rfl hb0) (ex_eq rfl rfl) rfl rfl fun q4 F4 => ?_
   refine st_pr F4 (PR.op (ex_pick_t (ev_b rfl hb0) rfl) <| PR.op (ex_asg rfl) <| PR.nil) fun q5 F5 => ?_
   refine st_end ?_
   obtain rfl := some_ok H
   refine then_n ?_
   exact ⟨F5.sub ⟨rfl, rfl, rfl, rfl, rfl, trivial⟩, s49⟩
  ·replace H := ite_f hb0 H
   refine st_gskip F1 rfl rfl (look_b rfl hb0) Bool.noConfusion rfl rfl fun q6 F6 => ?_
   refine st_gskip F6 rfl rfl (look_b rfl hb0) Bool.noConfusion rfl rfl fun q7 F7 => ?_
   refine st_gskip F7 rfl rfl (look_b rfl hb0) Bool.noConfusion rfl rfl fun q8 F8 => ?_
   refine st_pr F8 (PR.op (ex_pick_f (ev_b rfl hb0) rfl) <| PR.op (ex_asg rfl) <| PR.nil) fun q9 F9 => ?_
   refine st_end ?_
   obtain rfl := some_ok H
   refine then_n ?_
   exact ⟨F9.sub ⟨rfl, rfl, rfl, rfl, rfl, trivial⟩, s49⟩
 ·intro q10 w0 hJ
  obtain ⟨F10, s1⟩ := hJ
  have H := R0
  clear R0 H0
  refine then_n <| wp_seq <| wp_reg ?_
  refine st_pr F10 (PR.op (ex_build (vs := [.int .u8 1, .int .i64 (-1)]) Fx.zero156 Fx.pl156 rfl (cs := [.int .u8 1, .int .i64 0, .int .i64 0, .int .i64 (-1)]) (rfl)) <| PR.nil) fun q11 F11 => ?_
  refine st_alloc F11 s1 Fx.zero156 rfl rfl fun g0 w1 q12 F12 s2 => ?_
  have s3 := s2
  refine st_storea F12 s3 rfl rfl Fx.sz156 (one_cons rfl (one_cons rfl (one_cons rfl (one_cons rfl one_nil)))) (Nat.le_of_ble_eq_true rfl) fun w2 q13 F13 s4 => ?_
  replace s4 : SL w [] w2 [Blk g0 156 [.int .u8 1, .int .i64 0, .int .i64 0, .int .i64 (-1)], Blk g45 156 [.int .u8 0, .int .i64 0, .int .i64 0, .int .i64 0], Blk g39 156 [.int .u8 (a2.op.toNat : Int), .int .i64 a2.a, .int .i64 a2.b, .int .i64 a2.to], Blk g33 156 [.int .u8 (a1.op.toNat : Int), .int .i64 a1.a, .int .i64 a1.b, .int .i64 a1.to], Blk g27 156 [.int .u8 (a0.op.toNat : Int), .int .i64 a0.a, .int .i64 a0.b, .int .i64 a0.to]] := s4
  refine st_end <| then_n <| wp_seq <| wp_block <| wp_seq <| wp_reg ?_
  refine st_pr F13 (PR.op (ex_move rfl) <| PR.op (ex_move rfl) <| PR.nil) fun q14 F14 => ?_
  refine bool_split o0 (fun hb1 => ?_) (fun hb1 => ?_)
  ·replace H := ite_t hb1 H
   refine st_gop F14 rfl rfl (look_b rfl hb1) (ex_fab Fx.fa156_0 rfl rfl) rfl rfl fun q15 F15 => ?_
   refine st_gop F15 rfl rfl (look_b rfl hb1) (ex_ld Fx.nag5 rfl (s4.blk_cell (.tail _ <| .tail _ <| .head _) rfl)) rfl rfl fun q16 F16 => ?_
   refine st_gop F16 rfl rfl (look_b rfl hb1) (ex_eq rfl rfl) rfl rfl fun q17 F17 => ?_
   refine st_pr F17 (PR.op (ex_pick_t (ev_b rfl hb1) rfl) <| PR.op (ex_asg rfl) <| PR.nil) fun q18 F18 => ?_
   refine st_end <| then_n ?_
   refine wp_if F18 rfl (fun hb2 => ?_) (fun hb2 => ?_)
   ·replace H := ite_t hb2 H
    refine wp_reg ?_
    obtain ⟨x0, hx0, H⟩ := bind_ok H
    refine st_pr F18 (PR.op (ex_fab Fx.fa156_1 rfl rfl) <| PR.op (ex_ld Fx.nag3 rfl (s4.blk_cell (.tail _ <| .tail _ <| .tail _ <| .tail _ <| .head _) rfl)) <| PR.op (ex_fab Fx.fa156_1 rfl rfl) <| PR.op (ex_ld Fx.nag3 rfl (s4.blk_cell (.tail _ <| .tail _ <| .tail _ <| .head _) rfl)) <| PR.op (ex_add rfl rfl) <| PR.nil) fun q19 F19 => ?_
    refine st_call (args := [.tmp 31]) F19 Fx.fn117 rfl (provisoref15_Wrap_c (a0 := wr (a0.a + a1.a))   hx0) rfl fun v0 w3 q20 hS0 F20 => ?_
    obtain ⟨rfl, hq0⟩ := hS0
    have s5 := s4.add hq0
    refine st_pr F20 (PR.op (ex_fab Fx.fa156_1 rfl rfl) <| PR.nil) fun q21 F21 => ?_
    have s6 := s5
    refine st_store F21 s6 rfl rfl Fx.sz3 rfl rfl rfl fun w4 q22 F22 s7 => ?_
    replace s7 : SL w [] w4 [Blk g0 156 [.int .u8 1, .int .i64 x0, .int .i64 0, .int .i64 (-1)], Blk g45 156 [.int .u8 0, .int .i64 0, .int .i64 0, .int .i64 0], Blk g39 156 [.int .u8 (a2.op.toNat : Int), .int .i64 a2.a, .int .i64 a2.b, .int .i64 a2.to], Blk g33 156 [.int .u8 (a1.op.toNat : Int), .int .i64 a1.a, .int .i64 a1.b, .int .i64 a1.to], Blk g27 156 [.int .u8 (a0.op.toNat : Int), .int .i64 a0.a, .int .i64 a0.b, .int .i64 a0.to]] := s7
    refine st_end ?_
    refine blk_n ?_
    refine then_n <| wp_seq <| wp_reg ?_
    refine st_pr F22 (PR.op (ex_ldagg Fx.agg156 rfl (s7.blk_cells (.head _) (o := 0) (ds := [.int .u8 1, .int .i64 x0, .int .i64 0, .int .i64 (-1)]) (fun j u hu => by rw [Nat.zero_add]; exact hu)) rfl) <| PR.nil) fun q23 F23 => ?_
    have s8 := s7.f1
    refine st_storea F23 s8 rfl rfl Fx.sz156 (one_cons rfl (one_cons rfl (one_cons rfl (one_cons rfl one_nil)))) (Nat.le_of_ble_eq_true rfl) fun w5 q24 F24 s9 => ?_
    replace s9 : SL w [] w5 [Blk g45 156 [.int .u8 1, .int .i64 x0, .int .i64 0, .int .i64 (-1)], Blk g0 156 [.int .u8 1, .int .i64 x0, .int .i64 0, .int .i64 (-1)], Blk g39 156 [.int .u8 (a2.op.toNat : Int), .int .i64 a2.a, .int .i64 a2.b, .int .i64 a2.to], Blk g33 156 [.int .u8 (a1.op.toNat : Int), .int .i64 a1.a, .int .i64 a1.b, .int .i64 a1.to], Blk g27 156 [.int .u8 (a0.op.toNat : Int), .int .i64 a0.a, .int .i64 a0.b, .int .i64 a0.to]] := s9
    refine st_pr F24 (PR.op (ex_asg rfl) <| PR.nil) fun q25 F25 => ?_
    refine st_end <| then_n ?_
    obtain rfl := some_ok H
    refine wp_ret ?_
    refine ret_gen (rs := [.cell 6 156, .tmp 7]) (vs := [.agg ⟨[.int .u8 1, .int .i64 x0, .int .i64 0, .int .i64 (-1)]⟩, .bool true]) F25 (by rfl) ⟨_, _, rfl, RV.blk s9 (.head _) rfl Fx.agg156 rfl, _, _, rfl, RV.tmp rfl, rfl⟩ ⟨_, rfl, ⟨rfl, s9.drop.drop.drop.drop.drop⟩⟩
   ·replace H := ite_f hb2 H
    refine wp_seq <| wp_reg ?_
    refine st_pr F18 (PR.op (ex_move rfl) <| PR.op (ex_move rfl) <| PR.nil) fun q26 F26 => ?_
    refine st_gop F26 rfl rfl (look_b rfl hb1) (ex_fab Fx.fa156_0 rfl rfl) rfl rfl fun q27 F27 => ?_
    refine st_gop F27 rfl rfl (look_b rfl hb1) (ex_ld Fx.nag5 rfl (s4.blk_cell (.tail _ <| .tail _ <| .head _) rfl)) rfl rfl fun q28 F28 => ?_
    refine st_gop F28 rfl rfl (look_b rfl hb1) (ex_eq rfl rfl) rfl rfl fun q30 F29 => ?_
    refine st_pr F29 (PR.op (ex_pick_t (ev_b rfl hb1) rfl) <| PR.op (ex_asg rfl) <| PR.nil) fun q31 F31 => ?_
    refine st_end <| then_n ?_
    refine wp_if F31 rfl (fun hb3 => ?_) (fun hb3 => ?_)
    ·replace H := ite_t hb3 H
     refine wp_reg ?_
     obtain ⟨x1, hx1, H⟩ := bind_ok H
     refine st_pr F31 (PR.op (ex_fab Fx.fa156_1 rfl rfl) <| PR.op (ex_ld Fx.nag3 rfl (s4.blk_cell (.tail _ <| .tail _ <| .tail _ <| .tail _ <| .head _) rfl)) <| PR.op (ex_fab Fx.fa156_1 rfl rfl) <| PR.op (ex_ld Fx.nag3 rfl (s4.blk_cell (.tail _ <| .tail _ <| .tail _ <| .head _) rfl)) <| PR.op (ex_sub rfl rfl) <| PR.nil) fun q32 F32 => ?_
     refine st_call (args := [.tmp 45]) F32 Fx.fn117 rfl (provisoref15_Wrap_c (a0 := wr (a0.a - a1.a))   hx1) rfl fun v1 w6 q33 hS1 F33 => ?_
     obtain ⟨rfl, hq1⟩ := hS1
     have s10 := s4.add hq1
     refine st_pr F33 (PR.op (ex_fab Fx.fa156_1 rfl rfl) <| PR.nil) fun q34 F34 => ?_
     have s11 := s10
     refine st_store F34 s11 rfl rfl Fx.sz3 rfl rfl rfl fun w7 q36 F35 s12 => ?_
     replace s12 : SL w [] w7 [Blk g0 156 [.int .u8 1, .int .i64 x1, .int .i64 0, .int .i64 (-1)], Blk g45 156 [.int .u8 0, .int .i64 0, .int .i64 0, .int .i64 0], Blk g39 156 [.int .u8 (a2.op.toNat : Int), .int .i64 a2.a, .int .i64 a2.b, .int .i64 a2.to], Blk g33 156 [.int .u8 (a1.op.toNat : Int), .int .i64 a1.a, .int .i64 a1.b, .int .i64 a1.to], Blk g27 156 [.int .u8 (a0.op.toNat : Int), .int .i64 a0.a, .int .i64 a0.b, .int .i64 a0.to]] := s12
     refine st_end ?_
     refine blk_n ?_
     refine then_n <| wp_seq <| wp_reg ?_
     refine st_pr F35 (PR.op (ex_ldagg Fx.agg156 rfl (s12.blk_cells (.head _) (o := 0) (ds := [.int .u8 1, .int .i64 x1, .int .i64 0, .int .i64 (-1)]) (fun j u hu => by rw [Nat.zero_add]; exact hu)) rfl) <| PR.nil) fun q37 F37 => ?_
     have s13 := s12.f1
     refine st_storea F37 s13 rfl rfl Fx.sz156 (one_cons rfl (one_cons rfl (one_cons rfl (one_cons rfl one_nil)))) (Nat.le_of_ble_eq_true rfl) fun w8 q38 F38 s14 => ?_
     replace s14 : SL w [] w8 [Blk g45 156 [.int .u8 1, .int .i64 x1, .int .i64 0, .int .i64 (-1)], Blk g0 156 [.int .u8 1, .int .i64 x1, .int .i64 0, .int .i64 (-1)], Blk g39 156 [.int .u8 (a2.op.toNat : Int), .int .i64 a2.a, .int .i64 a2.b, .int .i64 a2.to], Blk g33 156 [.int .u8 (a1.op.toNat : Int), .int .i64 a1.a, .int .i64 a1.b, .int .i64 a1.to], Blk g27 156 [.int .u8 (a0.op.toNat : Int), .int .i64 a0.a, .int .i64 a0.b, .int .i64 a0.to]] := s14
     refine st_pr F38 (PR.op (ex_asg rfl) <| PR.nil) fun q39 F39 => ?_
     refine st_end <| then_n ?_
     obtain rfl := some_ok H
     refine wp_ret ?_
     refine ret_gen (rs := [.cell 6 156, .tmp 7]) (vs := [.agg ⟨[.int .u8 1, .int .i64 x1, .int .i64 0, .int .i64 (-1)]⟩, .bool true]) F39 (by rfl) ⟨_, _, rfl, RV.blk s14 (.head _) rfl Fx.agg156 rfl, _, _, rfl, RV.tmp rfl, rfl⟩ ⟨_, rfl, ⟨rfl, s14.drop.drop.drop.drop.drop⟩⟩
    ·replace H := ite_f hb3 H
     refine wp_seq <| wp_reg ?_
     refine st_pr F31 (PR.op (ex_move rfl) <| PR.op (ex_move rfl) <| PR.nil) fun q40 F40 => ?_
     refine st_gop F40 rfl rfl (look_b rfl hb1) (ex_fab Fx.fa156_0 rfl rfl) rfl rfl fun q42 F41 => ?_
     refine st_gop F41 rfl rfl (look_b rfl hb1) (ex_ld Fx.nag5 rfl (s4.blk_cell (.tail _ <| .tail _ <| .head _) rfl)) rfl rfl fun q43 F43 => ?_
     refine st_gop F43 rfl rfl (look_b rfl hb1) (ex_eq rfl rfl) rfl rfl fun q44 F44 => ?_
     refine st_pr F44 (PR.op (ex_pick_t (ev_b rfl hb1) rfl) <| PR.op (ex_asg rfl) <| PR.nil) fun q45 F45 => ?_
     refine st_end <| then_n ?_
     refine wp_if F45 rfl (fun hb4 => ?_) (fun hb4 => ?_)
     ·replace H := ite_t hb4 H
      refine wp_reg ?_
      obtain ⟨x2, hx2, H⟩ := bind_ok H
      refine st_pr F45 (PR.op (ex_fab Fx.fa156_1 rfl rfl) <| PR.op (ex_ld Fx.nag3 rfl (s4.blk_cell (.tail _ <| .tail _ <| .tail _ <| .tail _ <| .head _) rfl)) <| PR.op (ex_fab Fx.fa156_1 rfl rfl) <| PR.op (ex_ld Fx.nag3 rfl (s4.blk_cell (.tail _ <| .tail _ <| .tail _ <| .head _) rfl)) <| PR.op (ex_mul rfl rfl) <| PR.nil) fun q46 F46 => ?_
      refine st_call (args := [.tmp 59]) F46 Fx.fn117 rfl (provisoref15_Wrap_c (a0 := wr (a0.a * a1.a))   hx2) rfl fun v2 w9 q48 hS2 F47 => ?_
      obtain ⟨rfl, hq2⟩ := hS2
      have s15 := s4.add hq2
      refine st_pr F47 (PR.op (ex_fab Fx.fa156_1 rfl rfl) <| PR.nil) fun q49 F49 => ?_
      have s16 := s15
      refine st_store F49 s16 rfl rfl Fx.sz3 rfl rfl rfl fun w10 q50 F50 s17 => ?_
      replace s17 : SL w [] w10 [Blk g0 156 [.int .u8 1, .int .i64 x2, .int .i64 0, .int .i64 (-1)], Blk g45 156 [.int .u8 0, .int .i64 0, .int .i64 0, .int .i64 0], Blk g39 156 [.int .u8 (a2.op.toNat : Int), .int .i64 a2.a, .int .i64 a2.b, .int .i64 a2.to], Blk g33 156 [.int .u8 (a1.op.toNat : Int), .int .i64 a1.a, .int .i64 a1.b, .int .i64 a1.to], Blk g27 156 [.int .u8 (a0.op.toNat : Int), .int .i64 a0.a, .int .i64 a0.b, .int .i64 a0.to]] := s17
      refine st_end ?_
      refine blk_n ?_
      refine then_n <| wp_seq <| wp_reg ?_
      refine st_pr F50 (PR.op (ex_ldagg Fx.agg156 rfl (s17.blk_cells (.head _) (o := 0) (ds := [.int .u8 1, .int .i64 x2, .int .i64 0, .int .i64 (-1)]) (fun j u hu => by rw [Nat.zero_add]; exact hu)) rfl) <| PR.nil) fun q52 F51 => ?_
      have s18 := s17.f1
      refine st_storea F51 s18 rfl rfl Fx.sz156 (one_cons rfl (one_cons rfl (one_cons rfl (one_cons rfl one_nil)))) (Nat.le_of_ble_eq_true rfl) fun w11 q53 F53 s19 => ?_
      replace s19 : SL w [] w11 [Blk g45 156 [.int .u8 1, .int .i64 x2, .int .i64 0, .int .i64 (-1)], Blk g0 156 [.int .u8 1, .int .i64 x2, .int .i64 0, .int .i64 (-1)], Blk g39 156 [.int .u8 (a2.op.toNat : Int), .int .i64 a2.a, .int .i64 a2.b, .int .i64 a2.to], Blk g33 156 [.int .u8 (a1.op.toNat : Int), .int .i64 a1.a, .int .i64 a1.b, .int .i64 a1.to], Blk g27 156 [.int .u8 (a0.op.toNat : Int), .int .i64 a0.a, .int .i64 a0.b, .int .i64 a0.to]] := s19
      refine st_pr F53 (PR.op (ex_asg rfl) <| PR.nil) fun q54 F54 => ?_
      refine st_end <| then_n ?_
      obtain rfl := some_ok H
      refine wp_ret ?_
      refine ret_gen (rs := [.cell 6 156, .tmp 7]) (vs := [.agg ⟨[.int .u8 1, .int .i64 x2, .int .i64 0, .int .i64 (-1)]⟩, .bool true]) F54 (by rfl) ⟨_, _, rfl, RV.blk s19 (.head _) rfl Fx.agg156 rfl, _, _, rfl, RV.tmp rfl, rfl⟩ ⟨_, rfl, ⟨rfl, s19.drop.drop.drop.drop.drop⟩⟩
     ·replace H := ite_f hb4 H
      refine wp_seq <| wp_reg ?_
      refine st_pr F45 (PR.op (ex_move rfl) <| PR.op (ex_move rfl) <| PR.nil) fun q55 F55 => ?_
      refine st_gop F55 rfl rfl (look_b rfl hb1) (ex_fab Fx.fa156_0 rfl rfl) rfl rfl fun q56 F56 => ?_
      refine st_gop F56 rfl rfl (look_b rfl hb1) (ex_ld Fx.nag5 rfl (s4.blk_cell (.tail _ <| .tail _ <| .head _) rfl)) rfl rfl fun q57 F57 => ?_
      refine st_gop F57 rfl rfl (look_b rfl hb1) (ex_eq rfl rfl) rfl rfl fun q58 F58 => ?_
      refine st_pr F58 (PR.op (ex_pick_t (ev_b rfl hb1) rfl) <| PR.op (ex_asg rfl) <| PR.nil) fun q59 F59 => ?_
      refine st_end <| then_n ?_
      refine wp_if F59 rfl (fun hb5 => ?_) (fun hb5 => ?_)
      ·replace H := ite_t hb5 H
       refine wp_seq <| wp_reg ?_
       obtain ⟨x3, hx3, H⟩ := bind_ok H
       refine st_pr F59 (PR.op (ex_fab Fx.fa156_1 rfl rfl) <| PR.op (ex_ld Fx.nag3 rfl (s4.blk_cell (.tail _ <| .tail _ <| .tail _ <| .tail _ <| .head _) rfl)) <| PR.op (ex_fab Fx.fa156_1 rfl rfl) <| PR.op (ex_ld Fx.nag3 rfl (s4.blk_cell (.tail _ <| .tail _ <| .tail _ <| .head _) rfl)) <| PR.op (ex_lt rfl rfl) <| PR.nil) fun q60 F60 => ?_
       refine st_call (args := [.tmp 73]) F60 Fx.fn118 rfl (provisoref19_truth_c (a0 := decide (a0.a < a1.a))   hx3) rfl fun v3 w12 q61 hS3 F61 => ?_
       obtain ⟨rfl, hq3⟩ := hS3
       have s20 := s4.add hq3
       have s21 := s20.f1
       refine st_storea F61 s21 rfl rfl Fx.sz156 (one_cons rfl (one_cons rfl (one_cons rfl (one_cons rfl one_nil)))) (Nat.le_of_ble_eq_true rfl) fun w13 q62 F62 s22 => ?_
       replace s22 : SL w [] w13 [Blk g45 156 [.int .u8 (x3.op.toNat : Int), .int .i64 x3.a, .int .i64 x3.b, .int .i64 x3.to], Blk g0 156 [.int .u8 1, .int .i64 0, .int .i64 0, .int .i64 (-1)], Blk g39 156 [.int .u8 (a2.op.toNat : Int), .int .i64 a2.a, .int .i64 a2.b, .int .i64 a2.to], Blk g33 156 [.int .u8 (a1.op.toNat : Int), .int .i64 a1.a, .int .i64 a1.b, .int .i64 a1.to], Blk g27 156 [.int .u8 (a0.op.toNat : Int), .int .i64 a0.a, .int .i64 a0.b, .int .i64 a0.to]] := s22
       refine st_pr F62 (PR.op (ex_asg rfl) <| PR.nil) fun q63 F63 => ?_
       refine st_end <| then_n ?_
       obtain rfl := some_ok H
       refine wp_ret ?_
       refine blk_r <| then_r ?_
       refine ret_gen (rs := [.cell 6 156, .tmp 7]) (vs := [.agg ⟨[.int .u8 (x3.op.toNat : Int), .int .i64 x3.a, .int .i64 x3.b, .int .i64 x3.to]⟩, .bool true]) F63 (by rfl) ⟨_, _, rfl, RV.blk s22 (.head _) rfl Fx.agg156 rfl, _, _, rfl, RV.tmp rfl, rfl⟩ ⟨_, rfl, ⟨rfl, s22.drop.drop.drop.drop.drop⟩⟩
      ·replace H := ite_f hb5 H
       refine wp_seq <| wp_reg ?_
       refine st_pr F59 (PR.op (ex_move rfl) <| PR.op (ex_move rfl) <| PR.nil) fun q64 F64 => ?_
       refine st_gskip F64 rfl rfl (look_b rfl hb1) Bool.noConfusion rfl rfl fun q65 F65 => ?_
       refine st_gskip F65 rfl rfl (look_b rfl hb1) Bool.noConfusion rfl rfl fun q66 F66 => ?_
       refine st_gskip F66 rfl rfl (look_b rfl hb1) Bool.noConfusion rfl rfl fun q67 F67 => ?_
       refine st_gskip F67 rfl rfl (look_b rfl hb1) Bool.noConfusion rfl rfl fun q68 F68 => ?_
       refine st_gskip' F68 rfl rfl rfl rfl rfl fun q69 F69 => ?_
       refine st_gskip' F69 rfl rfl rfl rfl rfl fun q70 F70 => ?_
       refine st_gskip' F70 rfl rfl rfl rfl rfl fun q71 F71 => ?_
       refine st_gskip F71 rfl rfl (look_b rfl hb1) Bool.noConfusion rfl rfl fun q72 F72 => ?_
       refine st_pr F72 (PR.op (ex_pick_t (ev_b rfl hb1) rfl) <| PR.op (ex_move rfl) <| PR.nil) fun q73 F73 => ?_
       refine st_gop F73 rfl rfl rfl (ex_fab Fx.fa156_0 rfl rfl) rfl rfl fun q74 F74 => ?_
       refine st_gop F74 rfl rfl rfl (ex_ld Fx.nag5 rfl (s4.blk_cell (.tail _ <| .tail _ <| .head _) rfl)) rfl rfl fun q75 F75 => ?_
       refine st_gop F75 rfl rfl rfl (ex_eq rfl rfl) rfl rfl fun q76 F76 => ?_
       refine st_pr F76 (PR.op (ex_pick_t rfl rfl) <| PR.op (ex_asg rfl) <| PR.nil) fun q77 F77 => ?_
       refine st_end <| then_n ?_
       refine wp_if F77 rfl (fun hb6 => ?_) (fun hb6 => ?_)
       ·replace H := ite_t hb6 H
        refine wp_seq <| wp_reg ?_
        obtain ⟨x4, hx4, H⟩ := bind_ok H
        refine st_pr F77 (PR.op (ex_fab Fx.fa156_1 rfl rfl) <| PR.op (ex_ld Fx.nag3 rfl (s4.blk_cell (.tail _ <| .tail _ <| .tail _ <| .tail _ <| .head _) rfl)) <| PR.op (ex_fab Fx.fa156_1 rfl rfl) <| PR.op (ex_ld Fx.nag3 rfl (s4.blk_cell (.tail _ <| .tail _ <| .tail _ <| .head _) rfl)) <| PR.op (ex_eq rfl rfl) <| PR.nil) fun q78 F78 => ?_
        refine st_call (args := [.tmp 96]) F78 Fx.fn118 rfl (provisoref19_truth_c (a0 := (a0.a == a1.a))   hx4) rfl fun v4 w14 q79 hS4 F79 => ?_
        obtain ⟨rfl, hq4⟩ := hS4
        have s23 := s4.add hq4
        have s24 := s23.f1
        refine st_storea F79 s24 rfl rfl Fx.sz156 (one_cons rfl (one_cons rfl (one_cons rfl (one_cons rfl one_nil)))) (Nat.le_of_ble_eq_true rfl) fun w15 q80 F80 s25 => ?_
        replace s25 : SL w [] w15 [Blk g45 156 [.int .u8 (x4.op.toNat : Int), .int .i64 x4.a, .int .i64 x4.b, .int .i64 x4.to], Blk g0 156 [.int .u8 1, .int .i64 0, .int .i64 0, .int .i64 (-1)], Blk g39 156 [.int .u8 (a2.op.toNat : Int), .int .i64 a2.a, .int .i64 a2.b, .int .i64 a2.to], Blk g33 156 [.int .u8 (a1.op.toNat : Int), .int .i64 a1.a, .int .i64 a1.b, .int .i64 a1.to], Blk g27 156 [.int .u8 (a0.op.toNat : Int), .int .i64 a0.a, .int .i64 a0.b, .int .i64 a0.to]] := s25
        refine st_pr F80 (PR.op (ex_asg rfl) <| PR.nil) fun q81 F81 => ?_
        refine st_end <| then_n ?_
        obtain rfl := some_ok H
        refine wp_ret ?_
        refine blk_r <| then_r ?_
        refine ret_gen (rs := [.cell 6 156, .tmp 7]) (vs := [.agg ⟨[.int .u8 (x4.op.toNat : Int), .int .i64 x4.a, .int .i64 x4.b, .int .i64 x4.to]⟩, .bool true]) F81 (by rfl) ⟨_, _, rfl, RV.blk s25 (.head _) rfl Fx.agg156 rfl, _, _, rfl, RV.tmp rfl, rfl⟩ ⟨_, rfl, ⟨rfl, s25.drop.drop.drop.drop.drop⟩⟩
       ·replace H := ite_f hb6 H
        refine wp_seq <| wp_reg ?_
        refine st_pr F77 (PR.op (ex_ldagg Fx.agg156 rfl (s4.blk_cells (.head _) (o := 0) (ds := [.int .u8 1, .int .i64 0, .int .i64 0, .int .i64 (-1)]) (fun j u hu => by rw [Nat.zero_add]; exact hu)) rfl) <| PR.nil) fun q82 F82 => ?_
        have s26 := s4.f1
        refine st_storea F82 s26 rfl rfl Fx.sz156 (one_cons rfl (one_cons rfl (one_cons rfl (one_cons rfl one_nil)))) (Nat.le_of_ble_eq_true rfl) fun w16 q83 F83 s27 => ?_
        replace s27 : SL w [] w16 [Blk g45 156 [.int .u8 1, .int .i64 0, .int .i64 0, .int .i64 (-1)], Blk g0 156 [.int .u8 1, .int .i64 0, .int .i64 0, .int .i64 (-1)], Blk g39 156 [.int .u8 (a2.op.toNat : Int), .int .i64 a2.a, .int .i64 a2.b, .int .i64 a2.to], Blk g33 156 [.int .u8 (a1.op.toNat : Int), .int .i64 a1.a, .int .i64 a1.b, .int .i64 a1.to], Blk g27 156 [.int .u8 (a0.op.toNat : Int), .int .i64 a0.a, .int .i64 a0.b, .int .i64 a0.to]] := s27
        refine st_pr F83 (PR.op (ex_asg rfl) <| PR.nil) fun q84 F84 => ?_
        refine st_end <| then_n ?_
        obtain rfl := some_ok H
        refine wp_ret ?_
        refine blk_r <| then_r ?_
        refine ret_gen (rs := [.cell 6 156, .tmp 7]) (vs := [.agg ⟨[.int .u8 1, .int .i64 0, .int .i64 0, .int .i64 (-1)]⟩, .bool false]) F84 (by rfl) ⟨_, _, rfl, RV.blk s27 (.head _) rfl Fx.agg156 rfl, _, _, rfl, RV.tmp rfl, rfl⟩ ⟨_, rfl, ⟨rfl, s27.drop.drop.drop.drop.drop⟩⟩
  ·replace H := ite_f hb1 H
   refine st_gskip F14 rfl rfl (look_b rfl hb1) Bool.noConfusion rfl rfl fun q85 F85 => ?_
   refine st_gskip F85 rfl rfl (look_b rfl hb1) Bool.noConfusion rfl rfl fun q86 F86 => ?_
   refine st_gskip F86 rfl rfl (look_b rfl hb1) Bool.noConfusion rfl rfl fun q87 F87 => ?_
   refine st_pr F87 (PR.op (ex_pick_f (ev_b rfl hb1) rfl) <| PR.op (ex_asg rfl) <| PR.nil) fun q88 F88 => ?_
   refine st_end <| then_n ?_
   refine wp_if_f F88 rfl ?_
   refine wp_seq <| wp_reg ?_
   refine st_pr F88 (PR.op (ex_move rfl) <| PR.op (ex_move rfl) <| PR.nil) fun q89 F89 => ?_
   refine st_gskip F89 rfl rfl (look_b rfl hb1) Bool.noConfusion rfl rfl fun q90 F90 => ?_
   refine st_gskip F90 rfl rfl (look_b rfl hb1) Bool.noConfusion rfl rfl fun q91 F91 => ?_
   refine st_gskip F91 rfl rfl (look_b rfl hb1) Bool.noConfusion rfl rfl fun q92 F92 => ?_
   refine st_pr F92 (PR.op (ex_pick_f (ev_b rfl hb1) rfl) <| PR.op (ex_asg rfl) <| PR.nil) fun q93 F93 => ?_
   refine st_end <| then_n ?_
   refine wp_if_f F93 rfl ?_
   refine wp_seq <| wp_reg ?_
   refine st_pr F93 (PR.op (ex_move rfl) <| PR.op (ex_move rfl) <| PR.nil) fun q94 F94 => ?_
   refine st_gskip F94 rfl rfl (look_b rfl hb1) Bool.noConfusion rfl rfl fun q95 F95 => ?_
   refine st_gskip F95 rfl rfl (look_b rfl hb1) Bool.noConfusion rfl rfl fun q96 F96 => ?_
   refine st_gskip F96 rfl rfl (look_b rfl hb1) Bool.noConfusion rfl rfl fun q97 F97 => ?_
   refine st_pr F97 (PR.op (ex_pick_f (ev_b rfl hb1) rfl) <| PR.op (ex_asg rfl) <| PR.nil) fun q98 F98 => ?_
   refine st_end <| then_n ?_
   refine wp_if_f F98 rfl ?_
   refine wp_seq <| wp_reg ?_
   refine st_pr F98 (PR.op (ex_move rfl) <| PR.op (ex_move rfl) <| PR.nil) fun q99 F99 => ?_
   refine st_gskip F99 rfl rfl (look_b rfl hb1) Bool.noConfusion rfl rfl fun q100 F100 => ?_
   refine st_gskip F100 rfl rfl (look_b rfl hb1) Bool.noConfusion rfl rfl fun q101 F101 => ?_
   refine st_gskip F101 rfl rfl (look_b rfl hb1) Bool.noConfusion rfl rfl fun q102 F102 => ?_
   refine st_pr F102 (PR.op (ex_pick_f (ev_b rfl hb1) rfl) <| PR.op (ex_asg rfl) <| PR.nil) fun q103 F103 => ?_
   refine st_end <| then_n ?_
   refine wp_if_f F103 rfl ?_
   refine wp_seq <| wp_reg ?_
   refine st_pr F103 (PR.op (ex_move rfl) <| PR.op (ex_move rfl) <| PR.nil) fun q104 F104 => ?_
   refine st_gop F104 rfl rfl (look_b rfl hb1) (ex_fab Fx.fa156_0 rfl rfl) rfl rfl fun q105 F105 => ?_
   refine st_gop F105 rfl rfl (look_b rfl hb1) (ex_ld Fx.nag5 rfl (s4.blk_cell (.tail _ <| .tail _ <| .tail _ <| .tail _ <| .head _) rfl)) rfl rfl fun q106 F106 => ?_
   refine st_gop F106 rfl rfl (look_b rfl hb1) (ex_eq rfl rfl) rfl rfl fun q107 F107 => ?_
   refine st_gop F107 rfl rfl (look_b rfl hb1) (ex_move rfl) rfl rfl fun q108 F108 => ?_
   refine bool_split ((a0.op.toNat : Int) == 2) (fun hb7 => ?_) (fun hb7 => ?_)
   ·replace H := ite_t hb7 H
    refine st_gop F108 rfl rfl (look_b rfl hb7) (ex_fab Fx.fa156_0 rfl rfl) rfl rfl fun q109 F109 => ?_
    refine st_gop F109 rfl rfl (look_b rfl hb7) (ex_ld Fx.nag5 rfl (s4.blk_cell (.tail _ <| .tail _ <| .tail _ <| .head _) rfl)) rfl rfl fun q110 F110 => ?_
    refine st_gop F110 rfl rfl (look_b rfl hb7) (ex_eq rfl rfl) rfl rfl fun q111 F111 => ?_
    refine st_gop F111 rfl rfl (look_b rfl hb1) (ex_pick_t (ev_b rfl hb7) rfl) rfl rfl fun q112 F112 => ?_
    refine st_pr F112 (PR.op (ex_pick_f (ev_b rfl hb1) rfl) <| PR.op (ex_move rfl) <| PR.nil) fun q114 F113 => ?_
    refine bool_split ((a1.op.toNat : Int) == 2) (fun hb8 => ?_) (fun hb8 => ?_)
    ·replace H := ite_t hb8 H
     refine st_gop F113 rfl rfl (look_b rfl hb8) (ex_fab Fx.fa156_0 rfl rfl) rfl rfl fun q115 F115 => ?_
     refine st_gop F115 rfl rfl (look_b rfl hb8) (ex_ld Fx.nag5 rfl (s4.blk_cell (.tail _ <| .tail _ <| .head _) rfl)) rfl rfl fun q117 F116 => ?_
     refine st_gop F116 rfl rfl (look_b rfl hb8) (ex_eq rfl rfl) rfl rfl fun q119 F118 => ?_
     refine st_pr F118 (PR.op (ex_pick_t (ev_b rfl hb8) rfl) <| PR.op (ex_asg rfl) <| PR.nil) fun q121 F120 => ?_
     refine st_end <| then_n ?_
     refine wp_if F120 rfl (fun hb9 => ?_) (fun hb9 => ?_)
     ·replace H := ite_t hb9 H
      refine wp_seq <| wp_reg ?_
      obtain ⟨x5, hx5, H⟩ := bind_ok H
      refine st_pr F120 (PR.op (ex_fab Fx.fa156_1 rfl rfl) <| PR.op (ex_ld Fx.nag3 rfl (s4.blk_cell (.tail _ <| .tail _ <| .tail _ <| .tail _ <| .head _) rfl)) <| PR.op (ex_fab Fx.fa156_1 rfl rfl) <| PR.op (ex_ld Fx.nag3 rfl (s4.blk_cell (.tail _ <| .tail _ <| .tail _ <| .head _) rfl)) <| PR.op (ex_eq rfl rfl) <| PR.nil) fun q123 F122 => ?_
      refine st_call (args := [.tmp 96]) F122 Fx.fn118 rfl (provisoref19_truth_c (a0 := (a0.a == a1.a))   hx5) rfl fun v5 w17 q125 hS5 F124 => ?_
      obtain ⟨rfl, hq5⟩ := hS5
      have s28 := s4.add hq5
      have s29 := s28.f1
      refine st_storea F124 s29 rfl rfl Fx.sz156 (one_cons rfl (one_cons rfl (one_cons rfl (one_cons rfl one_nil)))) (Nat.le_of_ble_eq_true rfl) fun w18 q127 F126 s30 => ?_
      replace s30 : SL w [] w18 [Blk g45 156 [.int .u8 (x5.op.toNat : Int), .int .i64 x5.a, .int .i64 x5.b, .int .i64 x5.to], Blk g0 156 [.int .u8 1, .int .i64 0, .int .i64 0, .int .i64 (-1)], Blk g39 156 [.int .u8 (a2.op.toNat : Int), .int .i64 a2.a, .int .i64 a2.b, .int .i64 a2.to], Blk g33 156 [.int .u8 (a1.op.toNat : Int), .int .i64 a1.a, .int .i64 a1.b, .int .i64 a1.to], Blk g27 156 [.int .u8 (a0.op.toNat : Int), .int .i64 a0.a, .int .i64 a0.b, .int .i64 a0.to]] := s30
      refine st_pr F126 (PR.op (ex_asg rfl) <| PR.nil) fun q129 F128 => ?_
      refine st_end <| then_n ?_
      obtain rfl := some_ok H
      refine wp_ret ?_
      refine blk_r <| then_r ?_
      refine ret_gen (rs := [.cell 6 156, .tmp 7]) (vs := [.agg ⟨[.int .u8 (x5.op.toNat : Int), .int .i64 x5.a, .int .i64 x5.b, .int .i64 x5.to]⟩, .bool true]) F128 (by rfl) ⟨_, _, rfl, RV.blk s30 (.head _) rfl Fx.agg156 rfl, _, _, rfl, RV.tmp rfl, rfl⟩ ⟨_, rfl, ⟨rfl, s30.drop.drop.drop.drop.drop⟩⟩
     ·replace H := ite_f hb9 H
      refine wp_seq <| wp_reg ?_
      refine st_pr F120 (PR.op (ex_ldagg Fx.agg156 rfl (s4.blk_cells (.head _) (o := 0) (ds := [.int .u8 1, .int .i64 0, .int .i64 0, .int .i64 (-1)]) (fun j u hu => by rw [Nat.zero_add]; exact hu)) rfl) <| PR.nil) fun q131 F130 => ?_
      have s32 := s4.f1
      refine st_storea F130 s32 rfl rfl Fx.sz156 (one_cons rfl (one_cons rfl (one_cons rfl (one_cons rfl one_nil)))) (Nat.le_of_ble_eq_true rfl) fun w19 q132 F133 s33 => ?_
      replace s33 : SL w [] w19 [Blk g45 156 [.int .u8 1, .int .i64 0, .int .i64 0, .int .i64 (-1)], Blk g0 156 [.int .u8 1, .int .i64 0, .int .i64 0, .int .i64 (-1)], Blk g39 156 [.int .u8 (a2.op.toNat : Int), .int .i64 a2.a, .int .i64 a2.b, .int .i64 a2.to], Blk g33 156 [.int .u8 (a1.op.toNat : Int), .int .i64 a1.a, .int .i64 a1.b, .int .i64 a1.to], Blk g27 156 [.int .u8 (a0.op.toNat : Int), .int .i64 a0.a, .int .i64 a0.b, .int .i64 a0.to]] := s33
      refine st_pr F133 (PR.op (ex_asg rfl) <| PR.nil) fun q133 F134 => ?_
      refine st_end <| then_n ?_
      obtain rfl := some_ok H
      refine wp_ret ?_
      refine blk_r <| then_r ?_
      refine ret_gen (rs := [.cell 6 156, .tmp 7]) (vs := [.agg ⟨[.int .u8 1, .int .i64 0, .int .i64 0, .int .i64 (-1)]⟩, .bool false]) F134 (by rfl) ⟨_, _, rfl, RV.blk s33 (.head _) rfl Fx.agg156 rfl, _, _, rfl, RV.tmp rfl, rfl⟩ ⟨_, rfl, ⟨rfl, s33.drop.drop.drop.drop.drop⟩⟩
    ·replace H := ite_f hb8 H
     refine st_gskip F113 rfl rfl (look_b rfl hb8) Bool.noConfusion rfl rfl fun q135 F135 => ?_
     refine st_gskip F135 rfl rfl (look_b rfl hb8) Bool.noConfusion rfl rfl fun q136 F136 => ?_
     refine st_gskip F136 rfl rfl (look_b rfl hb8) Bool.noConfusion rfl rfl fun q137 F137 => ?_
     refine st_pr F137 (PR.op (ex_pick_f (ev_b rfl hb8) rfl) <| PR.op (ex_asg rfl) <| PR.nil) fun q138 F138 => ?_
     refine st_end <| then_n ?_
     refine wp_if_f F138 rfl ?_
     refine wp_seq <| wp_reg ?_
     refine st_pr F138 (PR.op (ex_ldagg Fx.agg156 rfl (s4.blk_cells (.head _) (o := 0) (ds := [.int .u8 1, .int .i64 0, .int .i64 0, .int .i64 (-1)]) (fun j u hu => by rw [Nat.zero_add]; exact hu)) rfl) <| PR.nil) fun q139 F139 => ?_
     have s34 := s4.f1
     refine st_storea F139 s34 rfl rfl Fx.sz156 (one_cons rfl (one_cons rfl (one_cons rfl (one_cons rfl one_nil)))) (Nat.le_of_ble_eq_true rfl) fun w20 q140 F140 s35 => ?_
     replace s35 : SL w [] w20 [Blk g45 156 [.int .u8 1, .int .i64 0, .int .i64 0, .int .i64 (-1)], Blk g0 156 [.int .u8 1, .int .i64 0, .int .i64 0, .int .i64 (-1)], Blk g39 156 [.int .u8 (a2.op.toNat : Int), .int .i64 a2.a, .int .i64 a2.b, .int .i64 a2.to], Blk g33 156 [.int .u8 (a1.op.toNat : Int), .int .i64 a1.a, .int .i64 a1.b, .int .i64 a1.to], Blk g27 156 [.int .u8 (a0.op.toNat : Int), .int .i64 a0.a, .int .i64 a0.b, .int .i64 a0.to]] := s35
     refine st_pr F140 (PR.op (ex_asg rfl) <| PR.nil) fun q141 F141 => ?_
     refine st_end <| then_n ?_
     obtain rfl := some_ok H
     refine wp_ret ?_
     refine blk_r <| then_r ?_
     refine ret_gen (rs := [.cell 6 156, .tmp 7]) (vs := [.agg ⟨[.int .u8 1, .int .i64 0, .int .i64 0, .int .i64 (-1)]⟩, .bool false]) F141 (by rfl) ⟨_, _, rfl, RV.blk s35 (.head _) rfl Fx.agg156 rfl, _, _, rfl, RV.tmp rfl, rfl⟩ ⟨_, rfl, ⟨rfl, s35.drop.drop.drop.drop.drop⟩⟩
   ·replace H := ite_f hb7 H
    refine st_gskip F108 rfl rfl (look_b rfl hb7) Bool.noConfusion rfl rfl fun q142 F142 => ?_
    refine st_gskip F142 rfl rfl (look_b rfl hb7) Bool.noConfusion rfl rfl fun q143 F143 => ?_
    refine st_gskip F143 rfl rfl (look_b rfl hb7) Bool.noConfusion rfl rfl fun q144 F144 => ?_
    refine st_gop F144 rfl rfl (look_b rfl hb1) (ex_pick_f (ev_b rfl hb7) rfl) rfl rfl fun q145 F145 => ?_
    refine st_pr F145 (PR.op (ex_pick_f (ev_b rfl hb1) rfl) <| PR.op (ex_move rfl) <| PR.nil) fun q146 F146 => ?_
    refine st_gskip F146 rfl rfl rfl Bool.noConfusion rfl rfl fun q147 F147 => ?_
    refine st_gskip F147 rfl rfl rfl Bool.noConfusion rfl rfl fun q148 F148 => ?_
    refine st_gskip F148 rfl rfl rfl Bool.noConfusion rfl rfl fun q150 F149 => ?_
    refine st_pr F149 (PR.op (ex_pick_f rfl rfl) <| PR.op (ex_asg rfl) <| PR.nil) fun q151 F151 => ?_
    refine st_end <| then_n ?_
    refine wp_if_f F151 rfl ?_
    refine wp_seq <| wp_reg ?_
    refine st_pr F151 (PR.op (ex_ldagg Fx.agg156 rfl (s4.blk_cells (.head _) (o := 0) (ds := [.int .u8 1, .int .i64 0, .int .i64 0, .int .i64 (-1)]) (fun j u hu => by rw [Nat.zero_add]; exact hu)) rfl) <| PR.nil) fun q152 F152 => ?_
    have s36 := s4.f1
    refine st_storea F152 s36 rfl rfl Fx.sz156 (one_cons rfl (one_cons rfl (one_cons rfl (one_cons rfl one_nil)))) (Nat.le_of_ble_eq_true rfl) fun w21 q154 F153 s38 => ?_
    replace s38 : SL w [] w21 [Blk g45 156 [.int .u8 1, .int .i64 0, .int .i64 0, .int .i64 (-1)], Blk g0 156 [.int .u8 1, .int .i64 0, .int .i64 0, .int .i64 (-1)], Blk g39 156 [.int .u8 (a2.op.toNat : Int), .int .i64 a2.a, .int .i64 a2.b, .int .i64 a2.to], Blk g33 156 [.int .u8 (a1.op.toNat : Int), .int .i64 a1.a, .int .i64 a1.b, .int .i64 a1.to], Blk g27 156 [.int .u8 (a0.op.toNat : Int), .int .i64 a0.a, .int .i64 a0.b, .int .i64 a0.to]] := s38
    refine st_pr F153 (PR.op (ex_asg rfl) <| PR.nil) fun q155 F155 => ?_
    refine st_end <| then_n ?_
    obtain rfl := some_ok H
    refine wp_ret ?_
    refine blk_r <| then_r ?_
    refine ret_gen (rs := [.cell 6 156, .tmp 7]) (vs := [.agg ⟨[.int .u8 1, .int .i64 0, .int .i64 0, .int .i64 (-1)]⟩, .bool false]) F155 (by rfl) ⟨_, _, rfl, RV.blk s38 (.head _) rfl Fx.agg156 rfl, _, _, rfl, RV.tmp rfl, rfl⟩ ⟨_, rfl, ⟨rfl, s38.drop.drop.drop.drop.drop⟩⟩
-- The walk of proviso/provisoref19.two.
theorem provisoref19_two_c {w : World} {a0 : S_provisoref19_ins} {a1 : S_provisoref19_ins} {r : S_provisoref19_ins × Bool}  (H : provisoref19_two a0 a1 = some r) :
  Calls Try.prog 105 #[.agg ⟨[.int .u8 (a0.op.toNat : Int), .int .i64 a0.a, .int .i64 a0.b, .int .i64 a0.to]⟩, .agg ⟨[.int .u8 (a1.op.toNat : Int), .int .i64 a1.a, .int .i64 a1.b, .int .i64 a1.to]⟩] w (Ret fun u_ w_ => u_ = .tuple ⟨[.agg ⟨[.int .u8 (r.1.op.toNat : Int), .int .i64 r.1.a, .int .i64 r.1.b, .int .i64 r.1.to]⟩, .bool r.2]⟩ ∧ SL w [] w_ []) := by
 have s0 : SL w [] w [] := SL.init0 w
 refine call_enter Try.func105 rfl Try.ntmps105 (Nat.le_of_ble_eq_true rfl) (args := [.agg ⟨[.int .u8 (a0.op.toNat : Int), .int .i64 a0.a, .int .i64 a0.b, .int .i64 a0.to]⟩, .agg ⟨[.int .u8 (a1.op.toNat : Int), .int .i64 a1.a, .int .i64 a1.b, .int .i64 a1.to]⟩]) fun q0 F0 => ?_
 unfold provisoref19_two at H
 refine wp_seq <| wp_reg ?_
 refine st_box F0 s0 rfl rfl rfl fun g21 w22 q23 F24 s25 => ?_
 refine st_box F24 s25 rfl rfl rfl fun g27 w28 q29 F30 s31 => ?_
 refine st_alloc F30 s31 Fx.zero156 rfl rfl fun g33 w34 q35 F36 s37 => ?_
 refine st_pr F36 (PR.op (ex_asg rfl) <| PR.nil) fun q39 F40 => ?_
 refine st_end <| then_n <| wp_seq <| wp_reg ?_
 refine st_pr F40 (PR.op (ex_build (vs := [.int .u8 0, .int .i64 (-1)]) Fx.zero156 Fx.pl156 rfl (cs := [.int .u8 0, .int .i64 0, .int .i64 0, .int .i64 (-1)]) (rfl)) <| PR.nil) fun q54 F55 => ?_
 refine st_alloc F55 s37 Fx.zero156 rfl rfl fun g56 w57 q58 F59 s60 => ?_
 have s66 := s60
 refine st_storea F59 s66 rfl rfl Fx.sz156 (one_cons rfl (one_cons rfl (one_cons rfl (one_cons rfl one_nil)))) (Nat.le_of_ble_eq_true rfl) fun w62 q63 F64 s65 => ?_
 replace s65 : SL w [] w62 [Blk g56 156 [.int .u8 0, .int .i64 0, .int .i64 0, .int .i64 (-1)], Blk g33 156 [.int .u8 0, .int .i64 0, .int .i64 0, .int .i64 0], Blk g27 156 [.int .u8 (a1.op.toNat : Int), .int .i64 a1.a, .int .i64 a1.b, .int .i64 a1.to], Blk g21 156 [.int .u8 (a0.op.toNat : Int), .int .i64 a0.a, .int .i64 a0.b, .int .i64 a0.to]] := s65
 refine st_end <| then_n <| wp_seq ?_
 obtain ⟨o0, H0, R0⟩ := bind_ok H
 clear H
 refine wp_cutn (fun a w_ => ∃ p0 : Unit, o0 = .inr (p0) ∧ Fr a 71 [(4, .pointer (some ⟨g33, 0, none⟩)), (6, .pointer (some ⟨g56, 0, none⟩))] ∧ SL w [] w_ [Blk g56 156 [.int .u8 0, .int .i64 0, .int .i64 0, .int .i64 (-1)], Blk g33 156 [.int .u8 0, .int .i64 0, .int .i64 0, .int .i64 0]]) ?_ ?_
 ·have H := H0
  refine wp_block <| wp_seq <| wp_reg ?_
  refine st_pr F64 (PR.op (ex_fab Fx.fa156_0 rfl rfl) <| PR.op (ex_ld Fx.nag5 rfl (s65.blk_cell (.tail _ <| .tail _ <| .tail _ <| .head _) rfl)) <| PR.op (ex_eq rfl rfl) <| PR.op (ex_move rfl) <| PR.nil) fun q1 F1 => ?_
  refine bool_split ((a0.op.toNat : Int) == 1) (fun hb0 => ?_) (fun hb0 => ?_)
  ·replace H := ite_t hb0 H
   refine st_gop F1 rfl rfl (look_b rfl hb0) (ex_fab Fx.fa156_0 rfl rfl) rfl rfl fun q2 F2 => ?_
   refine st_gop F2 rfl rfl (look_b rfl hb0) (ex_ld Fx.nag5 rfl (s65.blk_cell (.tail _ <| .tail _ <| .head _) rfl)) rfl rfl fun q3 F3 => ?_
   refine st_gop F3 rfl rfl (look_b rfl hb0) (ex_eq rfl rfl) rfl rfl fun q4 F4 => ?_
   refine st_pr F4 (PR.op (ex_pick_t (ev_b rfl hb0) rfl) <| PR.op (ex_asg rfl) <| PR.nil) fun q5 F5 => ?_
   refine st_end <| then_n ?_
   refine wp_if F5 rfl (fun hb1 => ?_) (fun hb1 => ?_)
   ·replace H := ite_t hb1 H
    refine wp_seq <| wp_reg ?_
    obtain ⟨x0, hx0, H⟩ := bind_ok H
    refine st_pr F5 (PR.op (ex_fab Fx.fa156_1 rfl rfl) <| PR.op (ex_ld Fx.nag3 rfl (s65.blk_cell (.tail _ <| .tail _ <| .tail _ <| .head _) rfl)) <| PR.op (ex_neg rfl) <| PR.nil) fun q6 F6 => ?_
    refine st_call (args := [.tmp 19]) F6 Fx.fn117 rfl (provisoref15_Wrap_c (a0 := wr (0 - a0.a))   hx0) rfl fun v0 w0 q7 hS0 F7 => ?_
    obtain ⟨rfl, hq0⟩ := hS0
    have s1 := s65.add hq0
    refine st_pr F7 (PR.op (ex_build (vs := [.int .u8 1, .int .i64 x0, .int .i64 (-1)]) Fx.zero156 Fx.pl156 rfl (cs := [.int .u8 1, .int .i64 x0, .int .i64 0, .int .i64 (-1)]) (rfl)) <| PR.nil) fun q8 F8 => ?_
    have s2 := s1.f1
    refine st_storea F8 s2 rfl rfl Fx.sz156 (one_cons rfl (one_cons rfl (one_cons rfl (one_cons rfl one_nil)))) (Nat.le_of_ble_eq_true rfl) fun w1 q9 F9 s3 => ?_
    replace s3 : SL w [] w1 [Blk g33 156 [.int .u8 1, .int .i64 x0, .int .i64 0, .int .i64 (-1)], Blk g56 156 [.int .u8 0, .int .i64 0, .int .i64 0, .int .i64 (-1)], Blk g27 156 [.int .u8 (a1.op.toNat : Int), .int .i64 a1.a, .int .i64 a1.b, .int .i64 a1.to], Blk g21 156 [.int .u8 (a0.op.toNat : Int), .int .i64 a0.a, .int .i64 a0.b, .int .i64 a0.to]] := s3
    refine st_pr F9 (PR.op (ex_asg rfl) <| PR.nil) fun q10 F10 => ?_
    refine st_end <| then_n ?_
    obtain rfl := some_ok H
    replace H := R0
    dsimp only at H
    obtain rfl := some_ok H
    refine wp_ret ?_
    refine blk_r <| then_r <| then_r ?_
    refine ret_gen (rs := [.cell 4 156, .tmp 5]) (vs := [.agg ⟨[.int .u8 1, .int .i64 x0, .int .i64 0, .int .i64 (-1)]⟩, .bool true]) F10 (by rfl) ⟨_, _, rfl, RV.blk s3 (.head _) rfl Fx.agg156 rfl, _, _, rfl, RV.tmp rfl, rfl⟩ ⟨_, rfl, ⟨rfl, s3.drop.drop.drop.drop⟩⟩
   ·replace H := ite_f hb1 H
    refine wp_seq <| wp_reg ?_
    refine st_pr F5 (PR.op (ex_fab Fx.fa156_0 rfl rfl) <| PR.op (ex_ld Fx.nag5 rfl (s65.blk_cell (.tail _ <| .tail _ <| .tail _ <| .head _) rfl)) <| PR.op (ex_eq rfl rfl) <| PR.op (ex_move rfl) <| PR.nil) fun q11 F11 => ?_
    refine bool_split ((a0.op.toNat : Int) == 2) (fun hb2 => ?_) (fun hb2 => ?_)
    ·replace H := ite_t hb2 H
     refine st_gop F11 rfl rfl (look_b rfl hb2) (ex_fab Fx.fa156_0 rfl rfl) rfl rfl fun q12 F12 => ?_
     refine st_gop F12 rfl rfl (look_b rfl hb2) (ex_ld Fx.nag5 rfl (s65.blk_cell (.tail _ <| .tail _ <| .head _) rfl)) rfl rfl fun q13 F13 => ?_
     refine st_gop F13 rfl rfl (look_b rfl hb2) (ex_eq rfl rfl) rfl rfl fun q14 F14 => ?_
     refine st_pr F14 (PR.op (ex_pick_t (ev_b rfl hb2) rfl) <| PR.op (ex_asg rfl) <| PR.nil) fun q15 F15 => ?_
     refine st_end <| then_n ?_
     refine wp_if F15 rfl (fun hb3 => ?_) (fun hb3 => ?_)
     ·replace H := ite_t hb3 H
      refine wp_seq <| wp_reg ?_
      obtain ⟨x1, hx1, H⟩ := bind_ok H
      refine st_pr F15 (PR.op (ex_fab Fx.fa156_1 rfl rfl) <| PR.op (ex_ld Fx.nag3 rfl (s65.blk_cell (.tail _ <| .tail _ <| .tail _ <| .head _) rfl)) <| PR.op (ex_eq rfl rfl) <| PR.nil) fun q16 F16 => ?_
      refine st_call (args := [.tmp 33]) F16 Fx.fn118 rfl (provisoref19_truth_c (a0 := (a0.a == 0))   hx1) rfl fun v1 w2 q17 hS1 F17 => ?_
      obtain ⟨rfl, hq1⟩ := hS1
      have s4 := s65.add hq1
      have s5 := s4.f1
      refine st_storea F17 s5 rfl rfl Fx.sz156 (one_cons rfl (one_cons rfl (one_cons rfl (one_cons rfl one_nil)))) (Nat.le_of_ble_eq_true rfl) fun w3 q18 F18 s6 => ?_
      replace s6 : SL w [] w3 [Blk g33 156 [.int .u8 (x1.op.toNat : Int), .int .i64 x1.a, .int .i64 x1.b, .int .i64 x1.to], Blk g56 156 [.int .u8 0, .int .i64 0, .int .i64 0, .int .i64 (-1)], Blk g27 156 [.int .u8 (a1.op.toNat : Int), .int .i64 a1.a, .int .i64 a1.b, .int .i64 a1.to], Blk g21 156 [.int .u8 (a0.op.toNat : Int), .int .i64 a0.a, .int .i64 a0.b, .int .i64 a0.to]] := s6
      refine st_pr F18 (PR.op (ex_asg rfl) <| PR.nil) fun q19 F19 => ?_
      refine st_end <| then_n ?_
      obtain rfl := some_ok H
      replace H := R0
      dsimp only at H
      obtain rfl := some_ok H
      refine wp_ret ?_
      refine blk_r <| then_r <| then_r ?_
      refine ret_gen (rs := [.cell 4 156, .tmp 5]) (vs := [.agg ⟨[.int .u8 (x1.op.toNat : Int), .int .i64 x1.a, .int .i64 x1.b, .int .i64 x1.to]⟩, .bool true]) F19 (by rfl) ⟨_, _, rfl, RV.blk s6 (.head _) rfl Fx.agg156 rfl, _, _, rfl, RV.tmp rfl, rfl⟩ ⟨_, rfl, ⟨rfl, s6.drop.drop.drop.drop⟩⟩
     ·replace H := ite_f hb3 H
      refine wp_seq <| wp_reg ?_
      refine st_pr F15 (PR.op (ex_fab Fx.fa156_0 rfl rfl) <| PR.op (ex_ld Fx.nag5 rfl (s65.blk_cell (.tail _ <| .tail _ <| .head _) rfl)) <| PR.op (ex_eq rfl rfl) <| PR.op (ex_move rfl) <| PR.nil) fun q20 F20 => ?_
      refine bool_split ((a1.op.toNat : Int) == 6) (fun hb4 => ?_) (fun hb4 => ?_)
      ·replace H := ite_t hb4 H
       refine st_gop F20 rfl rfl (look_b rfl hb4) (ex_fab Fx.fa156_0 rfl rfl) rfl rfl fun q21 F21 => ?_
       refine st_gop F21 rfl rfl (look_b rfl hb4) (ex_ld Fx.nag5 rfl (s65.blk_cell (.tail _ <| .tail _ <| .tail _ <| .head _) rfl)) rfl rfl fun q22 F22 => ?_
       refine st_gop F22 rfl rfl (look_b rfl hb4) (ex_eq rfl rfl) rfl rfl fun q24 F23 => ?_
       refine st_gop F23 rfl rfl (look_b rfl hb4) (ex_move rfl) rfl rfl fun q25 F25 => ?_
       refine st_gskip F25 rfl rfl (look_b rfl hb0) Bool.noConfusion rfl rfl fun q26 F26 => ?_
       refine st_gskip F26 rfl rfl (look_b rfl hb0) Bool.noConfusion rfl rfl fun q27 F27 => ?_
       refine st_gskip F27 rfl rfl (look_b rfl hb0) Bool.noConfusion rfl rfl fun q28 F28 => ?_
       refine st_gop F28 rfl rfl (look_b rfl hb4) (ex_pick_t (ev_b rfl hb0) rfl) rfl rfl fun q30 F29 => ?_
       refine st_gop F29 rfl rfl (look_b rfl hb4) (ex_move rfl) rfl rfl fun q31 F31 => ?_
       refine st_gskip F31 rfl rfl rfl Bool.noConfusion rfl rfl fun q32 F32 => ?_
       refine st_gskip F32 rfl rfl rfl Bool.noConfusion rfl rfl fun q33 F33 => ?_
       refine st_gskip F33 rfl rfl rfl Bool.noConfusion rfl rfl fun q34 F34 => ?_
       refine st_gop F34 rfl rfl (look_b rfl hb4) (ex_pick_t rfl rfl) rfl rfl fun q36 F35 => ?_
       refine st_gop F35 rfl rfl (look_b rfl hb4) (ex_move rfl) rfl rfl fun q37 F37 => ?_
       refine st_gskip F37 rfl rfl rfl Bool.noConfusion rfl rfl fun q38 F38 => ?_
       refine st_gskip F38 rfl rfl rfl Bool.noConfusion rfl rfl fun q40 F39 => ?_
       refine st_gskip F39 rfl rfl rfl Bool.noConfusion rfl rfl fun q41 F41 => ?_
       refine st_gop F41 rfl rfl (look_b rfl hb4) (ex_pick_t rfl rfl) rfl rfl fun q42 F42 => ?_
       refine st_pr F42 (PR.op (ex_pick_t (ev_b rfl hb4) rfl) <| PR.op (ex_asg rfl) <| PR.nil) fun q43 F43 => ?_
       refine st_end <| then_n ?_
       refine wp_if_t F43 rfl ?_
       refine wp_seq <| wp_reg ?_
       refine st_pr F43 (PR.op (ex_ldagg Fx.agg156 rfl (s65.blk_cells (.head _) (o := 0) (ds := [.int .u8 0, .int .i64 0, .int .i64 0, .int .i64 (-1)]) (fun j u hu => by rw [Nat.zero_add]; exact hu)) rfl) <| PR.nil) fun q44 F44 => ?_
       have s7 := s65.f1
       refine st_storea F44 s7 rfl rfl Fx.sz156 (one_cons rfl (one_cons rfl (one_cons rfl (one_cons rfl one_nil)))) (Nat.le_of_ble_eq_true rfl) fun w4 q45 F45 s8 => ?_
       replace s8 : SL w [] w4 [Blk g33 156 [.int .u8 0, .int .i64 0, .int .i64 0, .int .i64 (-1)], Blk g56 156 [.int .u8 0, .int .i64 0, .int .i64 0, .int .i64 (-1)], Blk g27 156 [.int .u8 (a1.op.toNat : Int), .int .i64 a1.a, .int .i64 a1.b, .int .i64 a1.to], Blk g21 156 [.int .u8 (a0.op.toNat : Int), .int .i64 a0.a, .int .i64 a0.b, .int .i64 a0.to]] := s8
       refine st_pr F45 (PR.op (ex_asg rfl) <| PR.nil) fun q46 F46 => ?_
       refine st_end <| then_n ?_
       obtain rfl := some_ok H
       replace H := R0
       dsimp only at H
       obtain rfl := some_ok H
       refine wp_ret ?_
       refine blk_r <| then_r <| then_r ?_
       refine ret_gen (rs := [.cell 4 156, .tmp 5]) (vs := [.agg ⟨[.int .u8 0, .int .i64 0, .int .i64 0, .int .i64 (-1)]⟩, .bool true]) F46 (by rfl) ⟨_, _, rfl, RV.blk s8 (.head _) rfl Fx.agg156 rfl, _, _, rfl, RV.tmp rfl, rfl⟩ ⟨_, rfl, ⟨rfl, s8.drop.drop.drop.drop⟩⟩
      ·replace H := ite_f hb4 H
       refine st_gskip F20 rfl rfl (look_b rfl hb4) Bool.noConfusion rfl rfl fun q47 F47 => ?_
       refine st_gskip F47 rfl rfl (look_b rfl hb4) Bool.noConfusion rfl rfl fun q48 F48 => ?_
       refine st_gskip F48 rfl rfl (look_b rfl hb4) Bool.noConfusion rfl rfl fun q49 F49 => ?_
       refine st_gskip F49 rfl rfl (look_b rfl hb4) Bool.noConfusion rfl rfl fun q50 F50 => ?_
       refine st_gskip' F50 rfl rfl rfl rfl rfl fun q51 F51 => ?_
       refine st_gskip' F51 rfl rfl rfl rfl rfl fun q52 F52 => ?_
       refine st_gskip' F52 rfl rfl rfl rfl rfl fun q53 F53 => ?_
       refine st_gskip F53 rfl rfl (look_b rfl hb4) Bool.noConfusion rfl rfl fun q55 F54 => ?_
       refine st_gskip F54 rfl rfl (look_b rfl hb4) Bool.noConfusion rfl rfl fun q56 F56 => ?_
       refine st_gskip' F56 rfl rfl rfl rfl rfl fun q57 F57 => ?_
       refine st_gskip' F57 rfl rfl rfl rfl rfl fun q59 F58 => ?_
       refine st_gskip' F58 rfl rfl rfl rfl rfl fun q60 F60 => ?_
       refine st_gskip F60 rfl rfl (look_b rfl hb4) Bool.noConfusion rfl rfl fun q61 F61 => ?_
       refine st_gskip F61 rfl rfl (look_b rfl hb4) Bool.noConfusion rfl rfl fun q62 F62 => ?_
       refine st_gskip' F62 rfl rfl rfl rfl rfl fun q64 F63 => ?_
       refine st_gskip' F63 rfl rfl rfl rfl rfl fun q65 F65 => ?_
       refine st_gskip' F65 rfl rfl rfl rfl rfl fun q66 F66 => ?_
       refine st_gskip F66 rfl rfl (look_b rfl hb4) Bool.noConfusion rfl rfl fun q67 F67 => ?_
       refine st_pr F67 (PR.op (ex_pick_f (ev_b rfl hb4) rfl) <| PR.op (ex_asg rfl) <| PR.nil) fun q68 F68 => ?_
       refine st_end <| then_n ?_
       refine wp_if_f F68 rfl ?_
       refine wp_seq <| wp_reg ?_
       refine st_pr F68 (PR.op (ex_fab Fx.fa156_0 rfl rfl) <| PR.op (ex_ld Fx.nag5 rfl (s65.blk_cell (.tail _ <| .tail _ <| .tail _ <| .head _) rfl)) <| PR.op (ex_eq rfl rfl) <| PR.op (ex_move rfl) <| PR.nil) fun q69 F69 => ?_
       refine bool_split ((a0.op.toNat : Int) == 17) (fun hb5 => ?_) (fun hb5 => ?_)
       ·replace H := ite_t hb5 H
        refine st_gop F69 rfl rfl (look_b rfl hb5) (ex_fab Fx.fa156_0 rfl rfl) rfl rfl fun q70 F70 => ?_
        refine st_gop F70 rfl rfl (look_b rfl hb5) (ex_ld Fx.nag5 rfl (s65.blk_cell (.tail _ <| .tail _ <| .head _) rfl)) rfl rfl fun q71 F71 => ?_
        refine st_gop F71 rfl rfl (look_b rfl hb5) (ex_eq rfl rfl) rfl rfl fun q72 F72 => ?_
        refine st_pr F72 (PR.op (ex_pick_t (ev_b rfl hb5) rfl) <| PR.op (ex_asg rfl) <| PR.nil) fun q73 F73 => ?_
        refine st_end <| then_n ?_
        refine wp_if_f F73 (look_b rfl hb3) ?_
        refine wp_skip ?_
        refine blk_n ?_
        obtain rfl := some_ok H
        refine then_n ?_
        exact ⟨_, rfl, F73.sub ⟨rfl, rfl, trivial⟩, s65.f2.drop.f2.drop⟩
       ·replace H := ite_f hb5 H
        refine st_gskip F69 rfl rfl (look_b rfl hb5) Bool.noConfusion rfl rfl fun q74 F74 => ?_
        refine st_gskip F74 rfl rfl (look_b rfl hb5) Bool.noConfusion rfl rfl fun q75 F75 => ?_
        refine st_gskip F75 rfl rfl (look_b rfl hb5) Bool.noConfusion rfl rfl fun q76 F76 => ?_
        refine st_pr F76 (PR.op (ex_pick_f (ev_b rfl hb5) rfl) <| PR.op (ex_asg rfl) <| PR.nil) fun q77 F77 => ?_
        refine st_end <| then_n ?_
        refine wp_if_f F77 rfl ?_
        refine wp_skip ?_
        refine blk_n ?_
        obtain rfl := some_ok H
        refine then_n ?_
        exact ⟨_, rfl, F77.sub ⟨rfl, rfl, trivial⟩, s65.f2.drop.f2.drop⟩
    ·replace H := ite_f hb2 H
     refine st_gskip F11 rfl rfl (look_b rfl hb2) Bool.noConfusion rfl rfl fun q78 F78 => ?_
     refine st_gskip F78 rfl rfl (look_b rfl hb2) Bool.noConfusion rfl rfl fun q79 F79 => ?_
     refine st_gskip F79 rfl rfl (look_b rfl hb2) Bool.noConfusion rfl rfl fun q80 F80 => ?_
     refine st_pr F80 (PR.op (ex_pick_f (ev_b rfl hb2) rfl) <| PR.op (ex_asg rfl) <| PR.nil) fun q81 F81 => ?_
     refine st_end <| then_n ?_
     refine wp_if_f F81 rfl ?_
     refine wp_seq <| wp_reg ?_
     refine st_pr F81 (PR.op (ex_fab Fx.fa156_0 rfl rfl) <| PR.op (ex_ld Fx.nag5 rfl (s65.blk_cell (.tail _ <| .tail _ <| .head _) rfl)) <| PR.op (ex_eq rfl rfl) <| PR.op (ex_move rfl) <| PR.nil) fun q82 F82 => ?_
     refine bool_split ((a1.op.toNat : Int) == 6) (fun hb6 => ?_) (fun hb6 => ?_)
     ·replace H := ite_t hb6 H
      refine st_gop F82 rfl rfl (look_b rfl hb6) (ex_fab Fx.fa156_0 rfl rfl) rfl rfl fun q83 F83 => ?_
      refine st_gop F83 rfl rfl (look_b rfl hb6) (ex_ld Fx.nag5 rfl (s65.blk_cell (.tail _ <| .tail _ <| .tail _ <| .head _) rfl)) rfl rfl fun q84 F84 => ?_
      refine st_gop F84 rfl rfl (look_b rfl hb6) (ex_eq rfl rfl) rfl rfl fun q85 F85 => ?_
      refine st_gop F85 rfl rfl (look_b rfl hb6) (ex_move rfl) rfl rfl fun q86 F86 => ?_
      refine st_gskip F86 rfl rfl (look_b rfl hb0) Bool.noConfusion rfl rfl fun q87 F87 => ?_
      refine st_gskip F87 rfl rfl (look_b rfl hb0) Bool.noConfusion rfl rfl fun q88 F88 => ?_
      refine st_gskip F88 rfl rfl (look_b rfl hb0) Bool.noConfusion rfl rfl fun q89 F89 => ?_
      refine st_gop F89 rfl rfl (look_b rfl hb6) (ex_pick_t (ev_b rfl hb0) rfl) rfl rfl fun q90 F90 => ?_
      refine st_gop F90 rfl rfl (look_b rfl hb6) (ex_move rfl) rfl rfl fun q91 F91 => ?_
      refine st_gskip F91 rfl rfl rfl Bool.noConfusion rfl rfl fun q92 F92 => ?_
      refine st_gskip F92 rfl rfl rfl Bool.noConfusion rfl rfl fun q93 F93 => ?_
      refine st_gskip F93 rfl rfl rfl Bool.noConfusion rfl rfl fun q94 F94 => ?_
      refine st_gop F94 rfl rfl (look_b rfl hb6) (ex_pick_t rfl rfl) rfl rfl fun q95 F95 => ?_
      refine st_gop F95 rfl rfl (look_b rfl hb6) (ex_move rfl) rfl rfl fun q96 F96 => ?_
      refine st_gskip F96 rfl rfl rfl Bool.noConfusion rfl rfl fun q97 F97 => ?_
      refine st_gskip F97 rfl rfl rfl Bool.noConfusion rfl rfl fun q98 F98 => ?_
      refine st_gskip F98 rfl rfl rfl Bool.noConfusion rfl rfl fun q99 F99 => ?_
      refine st_gop F99 rfl rfl (look_b rfl hb6) (ex_pick_t rfl rfl) rfl rfl fun q100 F100 => ?_
      refine st_pr F100 (PR.op (ex_pick_t (ev_b rfl hb6) rfl) <| PR.op (ex_asg rfl) <| PR.nil) fun q101 F101 => ?_
      refine st_end <| then_n ?_
      refine wp_if_t F101 rfl ?_
      refine wp_seq <| wp_reg ?_
      refine st_pr F101 (PR.op (ex_ldagg Fx.agg156 rfl (s65.blk_cells (.head _) (o := 0) (ds := [.int .u8 0, .int .i64 0, .int .i64 0, .int .i64 (-1)]) (fun j u hu => by rw [Nat.zero_add]; exact hu)) rfl) <| PR.nil) fun q102 F102 => ?_
      have s9 := s65.f1
      refine st_storea F102 s9 rfl rfl Fx.sz156 (one_cons rfl (one_cons rfl (one_cons rfl (one_cons rfl one_nil)))) (Nat.le_of_ble_eq_true rfl) fun w5 q103 F103 s10 => ?_
      replace s10 : SL w [] w5 [Blk g33 156 [.int .u8 0, .int .i64 0, .int .i64 0, .int .i64 (-1)], Blk g56 156 [.int .u8 0, .int .i64 0, .int .i64 0, .int .i64 (-1)], Blk g27 156 [.int .u8 (a1.op.toNat : Int), .int .i64 a1.a, .int .i64 a1.b, .int .i64 a1.to], Blk g21 156 [.int .u8 (a0.op.toNat : Int), .int .i64 a0.a, .int .i64 a0.b, .int .i64 a0.to]] := s10
      refine st_pr F103 (PR.op (ex_asg rfl) <| PR.nil) fun q104 F104 => ?_
      refine st_end <| then_n ?_
      obtain rfl := some_ok H
      replace H := R0
      dsimp only at H
      obtain rfl := some_ok H
      refine wp_ret ?_
      refine blk_r <| then_r <| then_r ?_
      refine ret_gen (rs := [.cell 4 156, .tmp 5]) (vs := [.agg ⟨[.int .u8 0, .int .i64 0, .int .i64 0, .int .i64 (-1)]⟩, .bool true]) F104 (by rfl) ⟨_, _, rfl, RV.blk s10 (.head _) rfl Fx.agg156 rfl, _, _, rfl, RV.tmp rfl, rfl⟩ ⟨_, rfl, ⟨rfl, s10.drop.drop.drop.drop⟩⟩
     ·replace H := ite_f hb6 H
      refine st_gskip F82 rfl rfl (look_b rfl hb6) Bool.noConfusion rfl rfl fun q105 F105 => ?_
      refine st_gskip F105 rfl rfl (look_b rfl hb6) Bool.noConfusion rfl rfl fun q106 F106 => ?_
      refine st_gskip F106 rfl rfl (look_b rfl hb6) Bool.noConfusion rfl rfl fun q107 F107 => ?_
      refine st_gskip F107 rfl rfl (look_b rfl hb6) Bool.noConfusion rfl rfl fun q108 F108 => ?_
      refine st_gskip' F108 rfl rfl rfl rfl rfl fun q109 F109 => ?_
      refine st_gskip' F109 rfl rfl rfl rfl rfl fun q110 F110 => ?_
      refine st_gskip' F110 rfl rfl rfl rfl rfl fun q111 F111 => ?_
      refine st_gskip F111 rfl rfl (look_b rfl hb6) Bool.noConfusion rfl rfl fun q112 F112 => ?_
      refine st_gskip F112 rfl rfl (look_b rfl hb6) Bool.noConfusion rfl rfl fun q113 F113 => ?_
      refine st_gskip' F113 rfl rfl rfl rfl rfl fun q114 F114 => ?_
      refine st_gskip' F114 rfl rfl rfl rfl rfl fun q115 F115 => ?_
      refine st_gskip' F115 rfl rfl rfl rfl rfl fun q116 F116 => ?_
      refine st_gskip F116 rfl rfl (look_b rfl hb6) Bool.noConfusion rfl rfl fun q117 F117 => ?_
      refine st_gskip F117 rfl rfl (look_b rfl hb6) Bool.noConfusion rfl rfl fun q118 F118 => ?_
      refine st_gskip' F118 rfl rfl rfl rfl rfl fun q119 F119 => ?_
      refine st_gskip' F119 rfl rfl rfl rfl rfl fun q120 F120 => ?_
      refine st_gskip' F120 rfl rfl rfl rfl rfl fun q121 F121 => ?_
      refine st_gskip F121 rfl rfl (look_b rfl hb6) Bool.noConfusion rfl rfl fun q122 F122 => ?_
      refine st_pr F122 (PR.op (ex_pick_f (ev_b rfl hb6) rfl) <| PR.op (ex_asg rfl) <| PR.nil) fun q123 F123 => ?_
      refine st_end <| then_n ?_
      refine wp_if_f F123 rfl ?_
      refine wp_seq <| wp_reg ?_
      refine st_pr F123 (PR.op (ex_fab Fx.fa156_0 rfl rfl) <| PR.op (ex_ld Fx.nag5 rfl (s65.blk_cell (.tail _ <| .tail _ <| .tail _ <| .head _) rfl)) <| PR.op (ex_eq rfl rfl) <| PR.op (ex_move rfl) <| PR.nil) fun q124 F124 => ?_
      refine bool_split ((a0.op.toNat : Int) == 17) (fun hb7 => ?_) (fun hb7 => ?_)
      ·replace H := ite_t hb7 H
       refine st_gop F124 rfl rfl (look_b rfl hb7) (ex_fab Fx.fa156_0 rfl rfl) rfl rfl fun q125 F125 => ?_
       refine st_gop F125 rfl rfl (look_b rfl hb7) (ex_ld Fx.nag5 rfl (s65.blk_cell (.tail _ <| .tail _ <| .head _) rfl)) rfl rfl fun q126 F126 => ?_
       refine st_gop F126 rfl rfl (look_b rfl hb7) (ex_eq rfl rfl) rfl rfl fun q127 F127 => ?_
       refine st_pr F127 (PR.op (ex_pick_t (ev_b rfl hb7) rfl) <| PR.op (ex_asg rfl) <| PR.nil) fun q128 F128 => ?_
       refine st_end <| then_n ?_
       refine wp_if F128 rfl (fun hb8 => ?_) (fun hb8 => ?_)
       ·replace H := ite_t hb8 H
        refine wp_seq <| wp_reg ?_
        refine st_pr F128 (PR.op (ex_ldagg Fx.agg156 rfl (s65.blk_cells (.head _) (o := 0) (ds := [.int .u8 0, .int .i64 0, .int .i64 0, .int .i64 (-1)]) (fun j u hu => by rw [Nat.zero_add]; exact hu)) rfl) <| PR.nil) fun q129 F129 => ?_
        have s11 := s65.f1
        refine st_storea F129 s11 rfl rfl Fx.sz156 (one_cons rfl (one_cons rfl (one_cons rfl (one_cons rfl one_nil)))) (Nat.le_of_ble_eq_true rfl) fun w6 q130 F130 s12 => ?_
        replace s12 : SL w [] w6 [Blk g33 156 [.int .u8 0, .int .i64 0, .int .i64 0, .int .i64 (-1)], Blk g56 156 [.int .u8 0, .int .i64 0, .int .i64 0, .int .i64 (-1)], Blk g27 156 [.int .u8 (a1.op.toNat : Int), .int .i64 a1.a, .int .i64 a1.b, .int .i64 a1.to], Blk g21 156 [.int .u8 (a0.op.toNat : Int), .int .i64 a0.a, .int .i64 a0.b, .int .i64 a0.to]] := s12
        refine st_pr F130 (PR.op (ex_asg rfl) <| PR.nil) fun q131 F131 => ?_
        refine st_end <| then_n ?_
        obtain rfl := some_ok H
        replace H := R0
        dsimp only at H
        obtain rfl := some_ok H
        refine wp_ret ?_
        refine blk_r <| then_r <| then_r ?_
        refine ret_gen (rs := [.cell 4 156, .tmp 5]) (vs := [.agg ⟨[.int .u8 0, .int .i64 0, .int .i64 0, .int .i64 (-1)]⟩, .bool true]) F131 (by rfl) ⟨_, _, rfl, RV.blk s12 (.head _) rfl Fx.agg156 rfl, _, _, rfl, RV.tmp rfl, rfl⟩ ⟨_, rfl, ⟨rfl, s12.drop.drop.drop.drop⟩⟩
       ·replace H := ite_f hb8 H
        refine wp_skip ?_
        refine blk_n ?_
        obtain rfl := some_ok H
        refine then_n ?_
        exact ⟨_, rfl, F128.sub ⟨rfl, rfl, trivial⟩, s65.f2.drop.f2.drop⟩
      ·replace H := ite_f hb7 H
       refine st_gskip F124 rfl rfl (look_b rfl hb7) Bool.noConfusion rfl rfl fun q132 F132 => ?_
       refine st_gskip F132 rfl rfl (look_b rfl hb7) Bool.noConfusion rfl rfl fun q133 F133 => ?_
       refine st_gskip F133 rfl rfl (look_b rfl hb7) Bool.noConfusion rfl rfl fun q134 F134 => ?_
       refine st_pr F134 (PR.op (ex_pick_f (ev_b rfl hb7) rfl) <| PR.op (ex_asg rfl) <| PR.nil) fun q135 F135 => ?_
       refine st_end <| then_n ?_
       refine wp_if_f F135 rfl ?_
       refine wp_skip ?_
       refine blk_n ?_
       obtain rfl := some_ok H
       refine then_n ?_
       exact ⟨_, rfl, F135.sub ⟨rfl, rfl, trivial⟩, s65.f2.drop.f2.drop⟩
  ·replace H := ite_f hb0 H
   refine st_gskip F1 rfl rfl (look_b rfl hb0) Bool.noConfusion rfl rfl fun q136 F136 => ?_
   refine st_gskip F136 rfl rfl (look_b rfl hb0) Bool.noConfusion rfl rfl fun q137 F137 => ?_
   refine st_gskip F137 rfl rfl (look_b rfl hb0) Bool.noConfusion rfl rfl fun q138 F138 => ?_
   refine st_pr F138 (PR.op (ex_pick_f (ev_b rfl hb0) rfl) <| PR.op (ex_asg rfl) <| PR.nil) fun q139 F139 => ?_
   refine st_end <| then_n ?_
   refine wp_if_f F139 rfl ?_
   refine wp_seq <| wp_reg ?_
   refine st_pr F139 (PR.op (ex_fab Fx.fa156_0 rfl rfl) <| PR.op (ex_ld Fx.nag5 rfl (s65.blk_cell (.tail _ <| .tail _ <| .tail _ <| .head _) rfl)) <| PR.op (ex_eq rfl rfl) <| PR.op (ex_move rfl) <| PR.nil) fun q140 F140 => ?_
   refine bool_split ((a0.op.toNat : Int) == 2) (fun hb9 => ?_) (fun hb9 => ?_)
   ·replace H := ite_t hb9 H
    refine st_gop F140 rfl rfl (look_b rfl hb9) (ex_fab Fx.fa156_0 rfl rfl) rfl rfl fun q141 F141 => ?_
    refine st_gop F141 rfl rfl (look_b rfl hb9) (ex_ld Fx.nag5 rfl (s65.blk_cell (.tail _ <| .tail _ <| .head _) rfl)) rfl rfl fun q142 F142 => ?_
    refine st_gop F142 rfl rfl (look_b rfl hb9) (ex_eq rfl rfl) rfl rfl fun q143 F143 => ?_
    refine st_pr F143 (PR.op (ex_pick_t (ev_b rfl hb9) rfl) <| PR.op (ex_asg rfl) <| PR.nil) fun q144 F144 => ?_
    refine st_end <| then_n ?_
    refine wp_if F144 rfl (fun hb10 => ?_) (fun hb10 => ?_)
    ·replace H := ite_t hb10 H
     refine wp_seq <| wp_reg ?_
     obtain ⟨x2, hx2, H⟩ := bind_ok H
     refine st_pr F144 (PR.op (ex_fab Fx.fa156_1 rfl rfl) <| PR.op (ex_ld Fx.nag3 rfl (s65.blk_cell (.tail _ <| .tail _ <| .tail _ <| .head _) rfl)) <| PR.op (ex_eq rfl rfl) <| PR.nil) fun q145 F145 => ?_
     refine st_call (args := [.tmp 33]) F145 Fx.fn118 rfl (provisoref19_truth_c (a0 := (a0.a == 0))   hx2) rfl fun v2 w7 q146 hS2 F146 => ?_
     obtain ⟨rfl, hq2⟩ := hS2
     have s13 := s65.add hq2
     have s14 := s13.f1
     refine st_storea F146 s14 rfl rfl Fx.sz156 (one_cons rfl (one_cons rfl (one_cons rfl (one_cons rfl one_nil)))) (Nat.le_of_ble_eq_true rfl) fun w8 q147 F147 s15 => ?_
     replace s15 : SL w [] w8 [Blk g33 156 [.int .u8 (x2.op.toNat : Int), .int .i64 x2.a, .int .i64 x2.b, .int .i64 x2.to], Blk g56 156 [.int .u8 0, .int .i64 0, .int .i64 0, .int .i64 (-1)], Blk g27 156 [.int .u8 (a1.op.toNat : Int), .int .i64 a1.a, .int .i64 a1.b, .int .i64 a1.to], Blk g21 156 [.int .u8 (a0.op.toNat : Int), .int .i64 a0.a, .int .i64 a0.b, .int .i64 a0.to]] := s15
     refine st_pr F147 (PR.op (ex_asg rfl) <| PR.nil) fun q148 F148 => ?_
     refine st_end <| then_n ?_
     obtain rfl := some_ok H
     replace H := R0
     dsimp only at H
     obtain rfl := some_ok H
     refine wp_ret ?_
     refine blk_r <| then_r <| then_r ?_
     refine ret_gen (rs := [.cell 4 156, .tmp 5]) (vs := [.agg ⟨[.int .u8 (x2.op.toNat : Int), .int .i64 x2.a, .int .i64 x2.b, .int .i64 x2.to]⟩, .bool true]) F148 (by rfl) ⟨_, _, rfl, RV.blk s15 (.head _) rfl Fx.agg156 rfl, _, _, rfl, RV.tmp rfl, rfl⟩ ⟨_, rfl, ⟨rfl, s15.drop.drop.drop.drop⟩⟩
    ·replace H := ite_f hb10 H
     refine wp_seq <| wp_reg ?_
     refine st_pr F144 (PR.op (ex_fab Fx.fa156_0 rfl rfl) <| PR.op (ex_ld Fx.nag5 rfl (s65.blk_cell (.tail _ <| .tail _ <| .head _) rfl)) <| PR.op (ex_eq rfl rfl) <| PR.op (ex_move rfl) <| PR.nil) fun q149 F149 => ?_
     refine bool_split ((a1.op.toNat : Int) == 6) (fun hb11 => ?_) (fun hb11 => ?_)
     ·replace H := ite_t hb11 H
      refine st_gop F149 rfl rfl (look_b rfl hb11) (ex_fab Fx.fa156_0 rfl rfl) rfl rfl fun q150 F150 => ?_
      refine st_gop F150 rfl rfl (look_b rfl hb11) (ex_ld Fx.nag5 rfl (s65.blk_cell (.tail _ <| .tail _ <| .tail _ <| .head _) rfl)) rfl rfl fun q151 F151 => ?_
      refine st_gop F151 rfl rfl (look_b rfl hb11) (ex_eq rfl rfl) rfl rfl fun q152 F152 => ?_
      refine st_gop F152 rfl rfl (look_b rfl hb11) (ex_move rfl) rfl rfl fun q153 F153 => ?_
      refine st_gop F153 rfl rfl (look_b rfl hb0) (ex_fab Fx.fa156_0 rfl rfl) rfl rfl fun q154 F154 => ?_
      refine st_gop F154 rfl rfl (look_b rfl hb0) (ex_ld Fx.nag5 rfl (s65.blk_cell (.tail _ <| .tail _ <| .tail _ <| .head _) rfl)) rfl rfl fun q155 F155 => ?_
      refine st_gop F155 rfl rfl (look_b rfl hb0) (ex_eq rfl rfl) rfl rfl fun q156 F156 => ?_
      refine st_gop F156 rfl rfl (look_b rfl hb11) (ex_pick_f (ev_b rfl hb0) rfl) rfl rfl fun q157 F157 => ?_
      refine st_gop F157 rfl rfl (look_b rfl hb11) (ex_move rfl) rfl rfl fun q158 F158 => ?_
      refine st_gskip F158 rfl rfl (look_b rfl hb9) Bool.noConfusion rfl rfl fun q159 F159 => ?_
      refine st_gskip F159 rfl rfl (look_b rfl hb9) Bool.noConfusion rfl rfl fun q160 F160 => ?_
      refine st_gskip F160 rfl rfl (look_b rfl hb9) Bool.noConfusion rfl rfl fun q161 F161 => ?_
      refine st_gop F161 rfl rfl (look_b rfl hb11) (ex_pick_t (ev_b rfl hb9) rfl) rfl rfl fun q162 F162 => ?_
      refine st_gop F162 rfl rfl (look_b rfl hb11) (ex_move rfl) rfl rfl fun q163 F163 => ?_
      refine st_gskip F163 rfl rfl rfl Bool.noConfusion rfl rfl fun q164 F164 => ?_
      refine st_gskip F164 rfl rfl rfl Bool.noConfusion rfl rfl fun q165 F165 => ?_
      refine st_gskip F165 rfl rfl rfl Bool.noConfusion rfl rfl fun q166 F166 => ?_
      refine st_gop F166 rfl rfl (look_b rfl hb11) (ex_pick_t rfl rfl) rfl rfl fun q167 F167 => ?_
      refine st_pr F167 (PR.op (ex_pick_t (ev_b rfl hb11) rfl) <| PR.op (ex_asg rfl) <| PR.nil) fun q168 F168 => ?_
      refine st_end <| then_n ?_
      refine wp_if_t F168 rfl ?_
      refine wp_seq <| wp_reg ?_
      refine st_pr F168 (PR.op (ex_ldagg Fx.agg156 rfl (s65.blk_cells (.head _) (o := 0) (ds := [.int .u8 0, .int .i64 0, .int .i64 0, .int .i64 (-1)]) (fun j u hu => by rw [Nat.zero_add]; exact hu)) rfl) <| PR.nil) fun q169 F169 => ?_
      have s16 := s65.f1
      refine st_storea F169 s16 rfl rfl Fx.sz156 (one_cons rfl (one_cons rfl (one_cons rfl (one_cons rfl one_nil)))) (Nat.le_of_ble_eq_true rfl) fun w9 q170 F170 s17 => ?_
      replace s17 : SL w [] w9 [Blk g33 156 [.int .u8 0, .int .i64 0, .int .i64 0, .int .i64 (-1)], Blk g56 156 [.int .u8 0, .int .i64 0, .int .i64 0, .int .i64 (-1)], Blk g27 156 [.int .u8 (a1.op.toNat : Int), .int .i64 a1.a, .int .i64 a1.b, .int .i64 a1.to], Blk g21 156 [.int .u8 (a0.op.toNat : Int), .int .i64 a0.a, .int .i64 a0.b, .int .i64 a0.to]] := s17
      refine st_pr F170 (PR.op (ex_asg rfl) <| PR.nil) fun q171 F171 => ?_
      refine st_end <| then_n ?_
      obtain rfl := some_ok H
      replace H := R0
      dsimp only at H
      obtain rfl := some_ok H
      refine wp_ret ?_
      refine blk_r <| then_r <| then_r ?_
      refine ret_gen (rs := [.cell 4 156, .tmp 5]) (vs := [.agg ⟨[.int .u8 0, .int .i64 0, .int .i64 0, .int .i64 (-1)]⟩, .bool true]) F171 (by rfl) ⟨_, _, rfl, RV.blk s17 (.head _) rfl Fx.agg156 rfl, _, _, rfl, RV.tmp rfl, rfl⟩ ⟨_, rfl, ⟨rfl, s17.drop.drop.drop.drop⟩⟩
     ·replace H := ite_f hb11 H
      refine st_gskip F149 rfl rfl (look_b rfl hb11) Bool.noConfusion rfl rfl fun q172 F172 => ?_
      refine st_gskip F172 rfl rfl (look_b rfl hb11) Bool.noConfusion rfl rfl fun q173 F173 => ?_
      refine st_gskip F173 rfl rfl (look_b rfl hb11) Bool.noConfusion rfl rfl fun q174 F174 => ?_
      refine st_gskip F174 rfl rfl (look_b rfl hb11) Bool.noConfusion rfl rfl fun q175 F175 => ?_
      refine st_gskip' F175 rfl rfl rfl rfl rfl fun q176 F176 => ?_
      refine st_gskip' F176 rfl rfl rfl rfl rfl fun q177 F177 => ?_
      refine st_gskip' F177 rfl rfl rfl rfl rfl fun q178 F178 => ?_
      refine st_gskip F178 rfl rfl (look_b rfl hb11) Bool.noConfusion rfl rfl fun q179 F179 => ?_
      refine st_gskip F179 rfl rfl (look_b rfl hb11) Bool.noConfusion rfl rfl fun q180 F180 => ?_
      refine st_gskip' F180 rfl rfl rfl rfl rfl fun q181 F181 => ?_
      refine st_gskip' F181 rfl rfl rfl rfl rfl fun q182 F182 => ?_
      refine st_gskip' F182 rfl rfl rfl rfl rfl fun q183 F183 => ?_
      refine st_gskip F183 rfl rfl (look_b rfl hb11) Bool.noConfusion rfl rfl fun q184 F184 => ?_
      refine st_gskip F184 rfl rfl (look_b rfl hb11) Bool.noConfusion rfl rfl fun q185 F185 => ?_
      refine st_gskip' F185 rfl rfl rfl rfl rfl fun q186 F186 => ?_
      refine st_gskip' F186 rfl rfl rfl rfl rfl fun q187 F187 => ?_
      refine st_gskip' F187 rfl rfl rfl rfl rfl fun q188 F188 => ?_
      refine st_gskip F188 rfl rfl (look_b rfl hb11) Bool.noConfusion rfl rfl fun q189 F189 => ?_
      refine st_pr F189 (PR.op (ex_pick_f (ev_b rfl hb11) rfl) <| PR.op (ex_asg rfl) <| PR.nil) fun q190 F190 => ?_
      refine st_end <| then_n ?_
      refine wp_if_f F190 rfl ?_
      refine wp_seq <| wp_reg ?_
      refine st_pr F190 (PR.op (ex_fab Fx.fa156_0 rfl rfl) <| PR.op (ex_ld Fx.nag5 rfl (s65.blk_cell (.tail _ <| .tail _ <| .tail _ <| .head _) rfl)) <| PR.op (ex_eq rfl rfl) <| PR.op (ex_move rfl) <| PR.nil) fun q191 F191 => ?_
      refine bool_split ((a0.op.toNat : Int) == 17) (fun hb12 => ?_) (fun hb12 => ?_)
      ·replace H := ite_t hb12 H
       refine st_gop F191 rfl rfl (look_b rfl hb12) (ex_fab Fx.fa156_0 rfl rfl) rfl rfl fun q192 F192 => ?_
       refine st_gop F192 rfl rfl (look_b rfl hb12) (ex_ld Fx.nag5 rfl (s65.blk_cell (.tail _ <| .tail _ <| .head _) rfl)) rfl rfl fun q193 F193 => ?_
       refine st_gop F193 rfl rfl (look_b rfl hb12) (ex_eq rfl rfl) rfl rfl fun q194 F194 => ?_
       refine st_pr F194 (PR.op (ex_pick_t (ev_b rfl hb12) rfl) <| PR.op (ex_asg rfl) <| PR.nil) fun q195 F195 => ?_
       refine st_end <| then_n ?_
       refine wp_if_f F195 (look_b rfl hb10) ?_
       refine wp_skip ?_
       refine blk_n ?_
       obtain rfl := some_ok H
       refine then_n ?_
       exact ⟨_, rfl, F195.sub ⟨rfl, rfl, trivial⟩, s65.f2.drop.f2.drop⟩
      ·replace H := ite_f hb12 H
       refine st_gskip F191 rfl rfl (look_b rfl hb12) Bool.noConfusion rfl rfl fun q196 F196 => ?_
       refine st_gskip F196 rfl rfl (look_b rfl hb12) Bool.noConfusion rfl rfl fun q197 F197 => ?_
       refine st_gskip F197 rfl rfl (look_b rfl hb12) Bool.noConfusion rfl rfl fun q198 F198 => ?_
       refine st_pr F198 (PR.op (ex_pick_f (ev_b rfl hb12) rfl) <| PR.op (ex_asg rfl) <| PR.nil) fun q199 F199 => ?_
       refine st_end <| then_n ?_
       refine wp_if_f F199 rfl ?_
       refine wp_skip ?_
       refine blk_n ?_
       obtain rfl := some_ok H
       refine then_n ?_
       exact ⟨_, rfl, F199.sub ⟨rfl, rfl, trivial⟩, s65.f2.drop.f2.drop⟩
   ·replace H := ite_f hb9 H
    refine st_gskip F140 rfl rfl (look_b rfl hb9) Bool.noConfusion rfl rfl fun q200 F200 => ?_
    refine st_gskip F200 rfl rfl (look_b rfl hb9) Bool.noConfusion rfl rfl fun q201 F201 => ?_
    refine st_gskip F201 rfl rfl (look_b rfl hb9) Bool.noConfusion rfl rfl fun q202 F202 => ?_
    refine st_pr F202 (PR.op (ex_pick_f (ev_b rfl hb9) rfl) <| PR.op (ex_asg rfl) <| PR.nil) fun q203 F203 => ?_
    refine st_end <| then_n ?_
    refine wp_if_f F203 rfl ?_
    refine wp_seq <| wp_reg ?_
    refine st_pr F203 (PR.op (ex_fab Fx.fa156_0 rfl rfl) <| PR.op (ex_ld Fx.nag5 rfl (s65.blk_cell (.tail _ <| .tail _ <| .head _) rfl)) <| PR.op (ex_eq rfl rfl) <| PR.op (ex_move rfl) <| PR.nil) fun q204 F204 => ?_
    refine bool_split ((a1.op.toNat : Int) == 6) (fun hb13 => ?_) (fun hb13 => ?_)
    ·replace H := ite_t hb13 H
     refine st_gop F204 rfl rfl (look_b rfl hb13) (ex_fab Fx.fa156_0 rfl rfl) rfl rfl fun q205 F205 => ?_
     refine st_gop F205 rfl rfl (look_b rfl hb13) (ex_ld Fx.nag5 rfl (s65.blk_cell (.tail _ <| .tail _ <| .tail _ <| .head _) rfl)) rfl rfl fun q206 F206 => ?_
     refine st_gop F206 rfl rfl (look_b rfl hb13) (ex_eq rfl rfl) rfl rfl fun q207 F207 => ?_
     refine st_gop F207 rfl rfl (look_b rfl hb13) (ex_move rfl) rfl rfl fun q208 F208 => ?_
     refine st_gop F208 rfl rfl (look_b rfl hb0) (ex_fab Fx.fa156_0 rfl rfl) rfl rfl fun q209 F209 => ?_
     refine st_gop F209 rfl rfl (look_b rfl hb0) (ex_ld Fx.nag5 rfl (s65.blk_cell (.tail _ <| .tail _ <| .tail _ <| .head _) rfl)) rfl rfl fun q210 F210 => ?_
     refine st_gop F210 rfl rfl (look_b rfl hb0) (ex_eq rfl rfl) rfl rfl fun q211 F211 => ?_
     refine st_gop F211 rfl rfl (look_b rfl hb13) (ex_pick_f (ev_b rfl hb0) rfl) rfl rfl fun q212 F212 => ?_
     refine st_gop F212 rfl rfl (look_b rfl hb13) (ex_move rfl) rfl rfl fun q213 F213 => ?_
     refine st_gop F213 rfl rfl (look_b rfl hb9) (ex_fab Fx.fa156_0 rfl rfl) rfl rfl fun q214 F214 => ?_
     refine st_gop F214 rfl rfl (look_b rfl hb9) (ex_ld Fx.nag5 rfl (s65.blk_cell (.tail _ <| .tail _ <| .tail _ <| .head _) rfl)) rfl rfl fun q215 F215 => ?_
     refine st_gop F215 rfl rfl (look_b rfl hb9) (ex_eq rfl rfl) rfl rfl fun q216 F216 => ?_
     refine st_gop F216 rfl rfl (look_b rfl hb13) (ex_pick_f (ev_b rfl hb9) rfl) rfl rfl fun q217 F217 => ?_
     refine st_gop F217 rfl rfl (look_b rfl hb13) (ex_move rfl) rfl rfl fun q218 F218 => ?_
     refine bool_split ((a0.op.toNat : Int) == 3) (fun hb14 => ?_) (fun hb14 => ?_)
     ·replace H := ite_t hb14 H
      refine st_gskip F218 rfl rfl (look_b rfl hb14) Bool.noConfusion rfl rfl fun q219 F219 => ?_
      refine st_gskip F219 rfl rfl (look_b rfl hb14) Bool.noConfusion rfl rfl fun q220 F220 => ?_
      refine st_gskip F220 rfl rfl (look_b rfl hb14) Bool.noConfusion rfl rfl fun q221 F221 => ?_
      refine st_gop F221 rfl rfl (look_b rfl hb13) (ex_pick_t (ev_b rfl hb14) rfl) rfl rfl fun q222 F222 => ?_
      refine st_pr F222 (PR.op (ex_pick_t (ev_b rfl hb13) rfl) <| PR.op (ex_asg rfl) <| PR.nil) fun q223 F223 => ?_
      refine st_end <| then_n ?_
      refine wp_if_t F223 rfl ?_
      refine wp_seq <| wp_reg ?_
      refine st_pr F223 (PR.op (ex_ldagg Fx.agg156 rfl (s65.blk_cells (.head _) (o := 0) (ds := [.int .u8 0, .int .i64 0, .int .i64 0, .int .i64 (-1)]) (fun j u hu => by rw [Nat.zero_add]; exact hu)) rfl) <| PR.nil) fun q224 F224 => ?_
      have s18 := s65.f1
      refine st_storea F224 s18 rfl rfl Fx.sz156 (one_cons rfl (one_cons rfl (one_cons rfl (one_cons rfl one_nil)))) (Nat.le_of_ble_eq_true rfl) fun w10 q225 F225 s19 => ?_
      replace s19 : SL w [] w10 [Blk g33 156 [.int .u8 0, .int .i64 0, .int .i64 0, .int .i64 (-1)], Blk g56 156 [.int .u8 0, .int .i64 0, .int .i64 0, .int .i64 (-1)], Blk g27 156 [.int .u8 (a1.op.toNat : Int), .int .i64 a1.a, .int .i64 a1.b, .int .i64 a1.to], Blk g21 156 [.int .u8 (a0.op.toNat : Int), .int .i64 a0.a, .int .i64 a0.b, .int .i64 a0.to]] := s19
      refine st_pr F225 (PR.op (ex_asg rfl) <| PR.nil) fun q226 F226 => ?_
      refine st_end <| then_n ?_
      obtain rfl := some_ok H
      replace H := R0
      dsimp only at H
      obtain rfl := some_ok H
      refine wp_ret ?_
      refine blk_r <| then_r <| then_r ?_
      refine ret_gen (rs := [.cell 4 156, .tmp 5]) (vs := [.agg ⟨[.int .u8 0, .int .i64 0, .int .i64 0, .int .i64 (-1)]⟩, .bool true]) F226 (by rfl) ⟨_, _, rfl, RV.blk s19 (.head _) rfl Fx.agg156 rfl, _, _, rfl, RV.tmp rfl, rfl⟩ ⟨_, rfl, ⟨rfl, s19.drop.drop.drop.drop⟩⟩
     ·replace H := ite_f hb14 H
      refine st_gop F218 rfl rfl (look_b rfl hb14) (ex_fab Fx.fa156_0 rfl rfl) rfl rfl fun q227 F227 => ?_
      refine st_gop F227 rfl rfl (look_b rfl hb14) (ex_ld Fx.nag5 rfl (s65.blk_cell (.tail _ <| .tail _ <| .tail _ <| .head _) rfl)) rfl rfl fun q228 F228 => ?_
      refine st_gop F228 rfl rfl (look_b rfl hb14) (ex_eq rfl rfl) rfl rfl fun q229 F229 => ?_
      refine st_gop F229 rfl rfl (look_b rfl hb13) (ex_pick_f (ev_b rfl hb14) rfl) rfl rfl fun q230 F230 => ?_
      refine st_pr F230 (PR.op (ex_pick_t (ev_b rfl hb13) rfl) <| PR.op (ex_asg rfl) <| PR.nil) fun q231 F231 => ?_
      refine st_end <| then_n ?_
      refine wp_if F231 rfl (fun hb15 => ?_) (fun hb15 => ?_)
      ·replace H := ite_t hb15 H
       refine wp_seq <| wp_reg ?_
       refine st_pr F231 (PR.op (ex_ldagg Fx.agg156 rfl (s65.blk_cells (.head _) (o := 0) (ds := [.int .u8 0, .int .i64 0, .int .i64 0, .int .i64 (-1)]) (fun j u hu => by rw [Nat.zero_add]; exact hu)) rfl) <| PR.nil) fun q232 F232 => ?_
       have s20 := s65.f1
       refine st_storea F232 s20 rfl rfl Fx.sz156 (one_cons rfl (one_cons rfl (one_cons rfl (one_cons rfl one_nil)))) (Nat.le_of_ble_eq_true rfl) fun w11 q233 F233 s21 => ?_
       replace s21 : SL w [] w11 [Blk g33 156 [.int .u8 0, .int .i64 0, .int .i64 0, .int .i64 (-1)], Blk g56 156 [.int .u8 0, .int .i64 0, .int .i64 0, .int .i64 (-1)], Blk g27 156 [.int .u8 (a1.op.toNat : Int), .int .i64 a1.a, .int .i64 a1.b, .int .i64 a1.to], Blk g21 156 [.int .u8 (a0.op.toNat : Int), .int .i64 a0.a, .int .i64 a0.b, .int .i64 a0.to]] := s21
       refine st_pr F233 (PR.op (ex_asg rfl) <| PR.nil) fun q234 F234 => ?_
       refine st_end <| then_n ?_
       obtain rfl := some_ok H
       replace H := R0
       dsimp only at H
       obtain rfl := some_ok H
       refine wp_ret ?_
       refine blk_r <| then_r <| then_r ?_
       refine ret_gen (rs := [.cell 4 156, .tmp 5]) (vs := [.agg ⟨[.int .u8 0, .int .i64 0, .int .i64 0, .int .i64 (-1)]⟩, .bool true]) F234 (by rfl) ⟨_, _, rfl, RV.blk s21 (.head _) rfl Fx.agg156 rfl, _, _, rfl, RV.tmp rfl, rfl⟩ ⟨_, rfl, ⟨rfl, s21.drop.drop.drop.drop⟩⟩
      ·replace H := ite_f hb15 H
       refine wp_seq <| wp_reg ?_
       refine st_pr F231 (PR.op (ex_fab Fx.fa156_0 rfl rfl) <| PR.op (ex_ld Fx.nag5 rfl (s65.blk_cell (.tail _ <| .tail _ <| .tail _ <| .head _) rfl)) <| PR.op (ex_eq rfl rfl) <| PR.op (ex_move rfl) <| PR.nil) fun q235 F235 => ?_
       refine bool_split ((a0.op.toNat : Int) == 17) (fun hb16 => ?_) (fun hb16 => ?_)
       ·replace H := ite_t hb16 H
        refine st_gop F235 rfl rfl (look_b rfl hb16) (ex_fab Fx.fa156_0 rfl rfl) rfl rfl fun q236 F236 => ?_
        refine st_gop F236 rfl rfl (look_b rfl hb16) (ex_ld Fx.nag5 rfl (s65.blk_cell (.tail _ <| .tail _ <| .head _) rfl)) rfl rfl fun q237 F237 => ?_
        refine st_gop F237 rfl rfl (look_b rfl hb16) (ex_eq rfl rfl) rfl rfl fun q238 F238 => ?_
        refine st_pr F238 (PR.op (ex_pick_t (ev_b rfl hb16) rfl) <| PR.op (ex_asg rfl) <| PR.nil) fun q239 F239 => ?_
        refine st_end <| then_n ?_
        refine wp_if F239 rfl (fun hb17 => ?_) (fun hb17 => ?_)
        ·replace H := ite_t hb17 H
         refine wp_seq <| wp_reg ?_
         refine st_pr F239 (PR.op (ex_ldagg Fx.agg156 rfl (s65.blk_cells (.head _) (o := 0) (ds := [.int .u8 0, .int .i64 0, .int .i64 0, .int .i64 (-1)]) (fun j u hu => by rw [Nat.zero_add]; exact hu)) rfl) <| PR.nil) fun q240 F240 => ?_
         have s22 := s65.f1
         refine st_storea F240 s22 rfl rfl Fx.sz156 (one_cons rfl (one_cons rfl (one_cons rfl (one_cons rfl one_nil)))) (Nat.le_of_ble_eq_true rfl) fun w12 q241 F241 s23 => ?_
         replace s23 : SL w [] w12 [Blk g33 156 [.int .u8 0, .int .i64 0, .int .i64 0, .int .i64 (-1)], Blk g56 156 [.int .u8 0, .int .i64 0, .int .i64 0, .int .i64 (-1)], Blk g27 156 [.int .u8 (a1.op.toNat : Int), .int .i64 a1.a, .int .i64 a1.b, .int .i64 a1.to], Blk g21 156 [.int .u8 (a0.op.toNat : Int), .int .i64 a0.a, .int .i64 a0.b, .int .i64 a0.to]] := s23
         refine st_pr F241 (PR.op (ex_asg rfl) <| PR.nil) fun q242 F242 => ?_
         refine st_end <| then_n ?_
         obtain rfl := some_ok H
         replace H := R0
         dsimp only at H
         obtain rfl := some_ok H
         refine wp_ret ?_
         refine blk_r <| then_r <| then_r ?_
         refine ret_gen (rs := [.cell 4 156, .tmp 5]) (vs := [.agg ⟨[.int .u8 0, .int .i64 0, .int .i64 0, .int .i64 (-1)]⟩, .bool true]) F242 (by rfl) ⟨_, _, rfl, RV.blk s23 (.head _) rfl Fx.agg156 rfl, _, _, rfl, RV.tmp rfl, rfl⟩ ⟨_, rfl, ⟨rfl, s23.drop.drop.drop.drop⟩⟩
        ·replace H := ite_f hb17 H
         refine wp_skip ?_
         refine blk_n ?_
         obtain rfl := some_ok H
         refine then_n ?_
         exact ⟨_, rfl, F239.sub ⟨rfl, rfl, trivial⟩, s65.f2.drop.f2.drop⟩
       ·replace H := ite_f hb16 H
        refine st_gskip F235 rfl rfl (look_b rfl hb16) Bool.noConfusion rfl rfl fun q243 F243 => ?_
        refine st_gskip F243 rfl rfl (look_b rfl hb16) Bool.noConfusion rfl rfl fun q244 F244 => ?_
        refine st_gskip F244 rfl rfl (look_b rfl hb16) Bool.noConfusion rfl rfl fun q245 F245 => ?_
        refine st_pr F245 (PR.op (ex_pick_f (ev_b rfl hb16) rfl) <| PR.op (ex_asg rfl) <| PR.nil) fun q246 F246 => ?_
        refine st_end <| then_n ?_
        refine wp_if_f F246 rfl ?_
        refine wp_skip ?_
        refine blk_n ?_
        obtain rfl := some_ok H
        refine then_n ?_
        exact ⟨_, rfl, F246.sub ⟨rfl, rfl, trivial⟩, s65.f2.drop.f2.drop⟩
    ·replace H := ite_f hb13 H
     refine st_gskip F204 rfl rfl (look_b rfl hb13) Bool.noConfusion rfl rfl fun q247 F247 => ?_
     refine st_gskip F247 rfl rfl (look_b rfl hb13) Bool.noConfusion rfl rfl fun q248 F248 => ?_
     refine st_gskip F248 rfl rfl (look_b rfl hb13) Bool.noConfusion rfl rfl fun q249 F249 => ?_
     refine st_gskip F249 rfl rfl (look_b rfl hb13) Bool.noConfusion rfl rfl fun q250 F250 => ?_
     refine st_gskip' F250 rfl rfl rfl rfl rfl fun q251 F251 => ?_
     refine st_gskip' F251 rfl rfl rfl rfl rfl fun q252 F252 => ?_
     refine st_gskip' F252 rfl rfl rfl rfl rfl fun q253 F253 => ?_
     refine st_gskip F253 rfl rfl (look_b rfl hb13) Bool.noConfusion rfl rfl fun q254 F254 => ?_
     refine st_gskip F254 rfl rfl (look_b rfl hb13) Bool.noConfusion rfl rfl fun q255 F255 => ?_
     refine st_gskip' F255 rfl rfl rfl rfl rfl fun q256 F256 => ?_
     refine st_gskip' F256 rfl rfl rfl rfl rfl fun q257 F257 => ?_
     refine st_gskip' F257 rfl rfl rfl rfl rfl fun q258 F258 => ?_
     refine st_gskip F258 rfl rfl (look_b rfl hb13) Bool.noConfusion rfl rfl fun q259 F259 => ?_
     refine st_gskip F259 rfl rfl (look_b rfl hb13) Bool.noConfusion rfl rfl fun q260 F260 => ?_
     refine st_gskip' F260 rfl rfl rfl rfl rfl fun q261 F261 => ?_
     refine st_gskip' F261 rfl rfl rfl rfl rfl fun q262 F262 => ?_
     refine st_gskip' F262 rfl rfl rfl rfl rfl fun q263 F263 => ?_
     refine st_gskip F263 rfl rfl (look_b rfl hb13) Bool.noConfusion rfl rfl fun q264 F264 => ?_
     refine st_pr F264 (PR.op (ex_pick_f (ev_b rfl hb13) rfl) <| PR.op (ex_asg rfl) <| PR.nil) fun q265 F265 => ?_
     refine st_end <| then_n ?_
     refine wp_if_f F265 rfl ?_
     refine wp_seq <| wp_reg ?_
     refine st_pr F265 (PR.op (ex_fab Fx.fa156_0 rfl rfl) <| PR.op (ex_ld Fx.nag5 rfl (s65.blk_cell (.tail _ <| .tail _ <| .tail _ <| .head _) rfl)) <| PR.op (ex_eq rfl rfl) <| PR.op (ex_move rfl) <| PR.nil) fun q266 F266 => ?_
     refine bool_split ((a0.op.toNat : Int) == 17) (fun hb18 => ?_) (fun hb18 => ?_)
     ·replace H := ite_t hb18 H
      refine st_gop F266 rfl rfl (look_b rfl hb18) (ex_fab Fx.fa156_0 rfl rfl) rfl rfl fun q267 F267 => ?_
      refine st_gop F267 rfl rfl (look_b rfl hb18) (ex_ld Fx.nag5 rfl (s65.blk_cell (.tail _ <| .tail _ <| .head _) rfl)) rfl rfl fun q268 F268 => ?_
      refine st_gop F268 rfl rfl (look_b rfl hb18) (ex_eq rfl rfl) rfl rfl fun q269 F269 => ?_
      refine st_pr F269 (PR.op (ex_pick_t (ev_b rfl hb18) rfl) <| PR.op (ex_asg rfl) <| PR.nil) fun q270 F270 => ?_
      refine st_end <| then_n ?_
      refine wp_if F270 rfl (fun hb19 => ?_) (fun hb19 => ?_)
      ·replace H := ite_t hb19 H
       refine wp_seq <| wp_reg ?_
       refine st_pr F270 (PR.op (ex_ldagg Fx.agg156 rfl (s65.blk_cells (.head _) (o := 0) (ds := [.int .u8 0, .int .i64 0, .int .i64 0, .int .i64 (-1)]) (fun j u hu => by rw [Nat.zero_add]; exact hu)) rfl) <| PR.nil) fun q271 F271 => ?_
       have s24 := s65.f1
       refine st_storea F271 s24 rfl rfl Fx.sz156 (one_cons rfl (one_cons rfl (one_cons rfl (one_cons rfl one_nil)))) (Nat.le_of_ble_eq_true rfl) fun w13 q272 F272 s26 => ?_
       replace s26 : SL w [] w13 [Blk g33 156 [.int .u8 0, .int .i64 0, .int .i64 0, .int .i64 (-1)], Blk g56 156 [.int .u8 0, .int .i64 0, .int .i64 0, .int .i64 (-1)], Blk g27 156 [.int .u8 (a1.op.toNat : Int), .int .i64 a1.a, .int .i64 a1.b, .int .i64 a1.to], Blk g21 156 [.int .u8 (a0.op.toNat : Int), .int .i64 a0.a, .int .i64 a0.b, .int .i64 a0.to]] := s26
       refine st_pr F272 (PR.op (ex_asg rfl) <| PR.nil) fun q273 F273 => ?_
       refine st_end <| then_n ?_
       obtain rfl := some_ok H
       replace H := R0
       dsimp only at H
       obtain rfl := some_ok H
       refine wp_ret ?_
       refine blk_r <| then_r <| then_r ?_
       refine ret_gen (rs := [.cell 4 156, .tmp 5]) (vs := [.agg ⟨[.int .u8 0, .int .i64 0, .int .i64 0, .int .i64 (-1)]⟩, .bool true]) F273 (by rfl) ⟨_, _, rfl, RV.blk s26 (.head _) rfl Fx.agg156 rfl, _, _, rfl, RV.tmp rfl, rfl⟩ ⟨_, rfl, ⟨rfl, s26.drop.drop.drop.drop⟩⟩
      ·replace H := ite_f hb19 H
       refine wp_skip ?_
       refine blk_n ?_
       obtain rfl := some_ok H
       refine then_n ?_
       exact ⟨_, rfl, F270.sub ⟨rfl, rfl, trivial⟩, s65.f2.drop.f2.drop⟩
     ·replace H := ite_f hb18 H
      refine st_gskip F266 rfl rfl (look_b rfl hb18) Bool.noConfusion rfl rfl fun q274 F274 => ?_
      refine st_gskip F274 rfl rfl (look_b rfl hb18) Bool.noConfusion rfl rfl fun q275 F275 => ?_
      refine st_gskip F275 rfl rfl (look_b rfl hb18) Bool.noConfusion rfl rfl fun q276 F276 => ?_
      refine st_pr F276 (PR.op (ex_pick_f (ev_b rfl hb18) rfl) <| PR.op (ex_asg rfl) <| PR.nil) fun q277 F277 => ?_
      refine st_end <| then_n ?_
      refine wp_if_f F277 rfl ?_
      refine wp_skip ?_
      refine blk_n ?_
      obtain rfl := some_ok H
      refine then_n ?_
      exact ⟨_, rfl, F277.sub ⟨rfl, rfl, trivial⟩, s65.f2.drop.f2.drop⟩
 ·intro q278 w14 hJ
  obtain ⟨p0, rfl, F278, s27⟩ := hJ
  have H := R0
  clear R0 H0
  dsimp only at H
  refine then_n <| wp_seq <| wp_reg ?_
  refine st_pr F278 (PR.op (ex_ldagg Fx.agg156 rfl (s27.blk_cells (.head _) (o := 0) (ds := [.int .u8 0, .int .i64 0, .int .i64 0, .int .i64 (-1)]) (fun j u hu => by rw [Nat.zero_add]; exact hu)) rfl) <| PR.nil) fun q279 F279 => ?_
  have s28 := s27.f1
  refine st_storea F279 s28 rfl rfl Fx.sz156 (one_cons rfl (one_cons rfl (one_cons rfl (one_cons rfl one_nil)))) (Nat.le_of_ble_eq_true rfl) fun w15 q280 F280 s29 => ?_
  replace s29 : SL w [] w15 [Blk g33 156 [.int .u8 0, .int .i64 0, .int .i64 0, .int .i64 (-1)], Blk g56 156 [.int .u8 0, .int .i64 0, .int .i64 0, .int .i64 (-1)]] := s29
  refine st_pr F280 (PR.op (ex_asg rfl) <| PR.nil) fun q281 F281 => ?_
  refine st_end <| then_n ?_
  obtain rfl := some_ok H
  refine wp_ret ?_
  refine ret_gen (rs := [.cell 4 156, .tmp 5]) (vs := [.agg ⟨[.int .u8 0, .int .i64 0, .int .i64 0, .int .i64 (-1)]⟩, .bool false]) F281 (by rfl) ⟨_, _, rfl, RV.blk s29 (.head _) rfl Fx.agg156 rfl, _, _, rfl, RV.tmp rfl, rfl⟩ ⟨_, rfl, ⟨rfl, s29.drop.drop⟩⟩
-- The walk of proviso/provisoref19.constants.
theorem provisoref19_constants_c {w : World} {v0 : Value} {a0 : List S_provisoref19_ins} {r : (List S_provisoref19_ins)} (hr0 : Rd T_provisoref19_ins w [] v0 a0) (H : provisoref19_constants a0 = some r) :
  Calls Try.prog 75 #[v0] w (Ret fun u_ w_ => ∃ u0 : Value, u_ = u0 ∧ SL w [] w_ [Sl T_provisoref19_ins u0 r]) := by
 have s0 : SL w [] w [] := SL.init0 w
 refine call_enter Try.func75 rfl Try.ntmps75 (Nat.le_of_ble_eq_true rfl) (args := [v0]) fun q0 F0 => ?_
 unfold provisoref19_constants at H
 refine wp_seq <| wp_reg ?_
 refine st_pr F0 (PR.op (ex_asg rfl) <| PR.nil) fun q3 F4 => ?_
 refine st_end <| then_n <| wp_seq <| wp_reg ?_
 obtain ⟨x20, hx21, H⟩ := bind_ok H
 refine st_pr F4 (PR.op (ex_move rfl) <| PR.nil) fun q22 F23 => ?_
 refine st_call (args := [.tmp 11]) F23 Fx.fn102 rfl (provisoref19_led_c (a0 := a0)  (hr0.pass0 s0) hx21) rfl fun v24 w25 q26 hS28 F27 => ?_
 obtain ⟨_, rfl, hq30⟩ := hS28
 have s29 := s0.add hq30
 refine st_pr F27 (PR.op (ex_asg rfl) <| PR.nil) fun q33 F34 => ?_
 refine st_end <| then_n <| wp_seq <| wp_reg ?_
 obtain ⟨x47, hx48, H⟩ := bind_ok H
 refine st_pr F34 (PR.op (ex_move rfl) <| PR.op (ex_len rfl Try.underlying126 (formL (rdL hr0 s29))) <| PR.nil) fun q49 F50 => ?_
 refine st_make Flat.bool false F50 s29 Fx.sl93 rfl rfl Fx.zero4 rfl rfl rfl hx48 rfl fun v51 w52 q53 F54 s55 => ?_
 refine st_pr F54 (PR.op (ex_asg rfl) <| PR.nil) fun q57 F58 => ?_
 refine st_end <| then_n <| wp_seq <| wp_reg ?_
 refine st_bslice (parts := []) F_provisoref19_ins ([] : List S_provisoref19_ins) F58 s55 Fx.sl126 rfl (by decide) rfl rfl rfl (by simp [Value.cells]) rfl rfl rfl fun v77 w78 q79 F80 s81 => ?_
 obtain ⟨x83, hx84, H⟩ := bind_ok H
 refine st_pr F80 (PR.op (ex_move rfl) <| PR.nil) fun q85 F86 => ?_
 have s92 := s81
 obtain ⟨_, hr_⟩ := (rdL hr0 s92)
 refine st_append_rd F_provisoref19_ins F86 s92 Fx.sl126 rfl rfl rfl rfl hr_ rfl rfl hx84 rfl fun v87 w88 q89 F90 s91 => ?_
 refine st_pr F90 (PR.op (ex_asg rfl) <| PR.nil) fun q93 F94 => ?_
 refine st_end <| then_n <| wp_seq <| wp_seq <| wp_reg ?_
 refine st_pr F94 (PR.op (ex_asg rfl) <| PR.nil) fun q1 F1 => ?_
 refine st_end <| then_n ?_
 obtain ⟨o0, H0, R0⟩ := bind_ok H
 clear H
 refine wp_cutn (fun a w_ => ∃ v1 v2 : Value, Fr a 125 [(4, v1), (5, v2)] ∧ SL w [] w_ [Sl Ty.bool v1 o0.1, Sl T_provisoref19_ins v2 o0.2]) ?_ ?_
 ·have H := H0
  refine wp_block ?_
  refine wp_lp (provisoref19_constants_b0 a0 x20) (fun s1 a w_ => ∃ v3 v4 : Value, Fr a 125 [(0, v0), (3, v24), (4, v3), (5, v4), (6, .int .i64 s1.2.2)] ∧ SL w [] w_ [Sl Ty.bool v24 x20, Sl Ty.bool v3 s1.1, Sl T_provisoref19_ins v4 s1.2.1]) H ?_ ?_
  ·exact ⟨v51, v87, F1.sub ⟨rfl, rfl, rfl, rfl, rfl, trivial⟩, s91.f1.f2⟩
  ·intro s1 q2 w0 hI0 o1 H hr
   obtain ⟨v3, v4, F2, s2⟩ := hI0
   replace H : provisoref19_constants_b0 a0 x20 s1 = some o1 := H
   unfold provisoref19_constants_b0 at H
   refine wp_seq <| wp_seq <| wp_reg ?_
   refine st_pr F2 (PR.op (ex_move rfl) <| PR.op (ex_move rfl) <| PR.op (ex_len rfl Try.underlying126 (formL (rdL hr0 s2))) <| PR.op (ex_lt rfl rfl) <| PR.nil) fun q4 F3 => ?_
   refine st_end <| then_n ?_
   refine wp_if F3 rfl (fun hb0 => ?_) (fun hb0 => ?_)
   ·replace H := ite_t hb0 H
    refine wp_skip <| then_n <| wp_seq ?_
    obtain ⟨o2, H1, R1⟩ := bind_ok H
    clear H
    refine wp_cutn (fun a w_ => ∃ v5 v6 : Value, Fr a 125 [(0, v0), (3, v24), (4, v5), (5, v6), (6, .int .i64 o2.2.2)] ∧ SL w [] w_ [Sl Ty.bool v24 x20, Sl Ty.bool v5 o2.1, Sl T_provisoref19_ins v6 o2.2.1]) ?_ ?_
    ·have H := H1
     refine wp_block <| wp_seq ?_
     obtain ⟨o3, H2, R2⟩ := bind_ok H
     clear H
     refine wp_cutn (fun a w_ => ∃ p0 : Unit, o3 = .inr (p0) ∧ Fr a 125 [(0, v0), (3, v24), (4, v3), (5, v4), (6, .int .i64 s1.2.2)] ∧ SL w [] w_ [Sl Ty.bool v24 x20, Sl Ty.bool v3 s1.1, Sl T_provisoref19_ins v4 s1.2.1]) ?_ ?_
     ·have H := H2
      refine wp_seq <| wp_reg ?_
      refine st_pr F3 (PR.op (ex_move rfl) <| PR.op (ex_add rfl rfl) <| PR.op (ex_move rfl) <| PR.op (ex_len rfl Try.underlying126 (formL (rdL hr0 s2))) <| PR.op (ex_lt rfl rfl) <| PR.op (ex_move rfl) <| PR.nil) fun q5 F5 => ?_
      refine bool_split (decide ((wr (s1.2.2 + 2)) < (a0.length : Int))) (fun hb1 => ?_) (fun hb1 => ?_)
      ·replace H := ite_t hb1 H
       refine st_gop F5 rfl rfl (look_b rfl hb1) (ex_move rfl) rfl rfl fun q6 F6 => ?_
       refine st_gop F6 rfl rfl (look_b rfl hb1) (ex_move rfl) rfl rfl fun q7 F7 => ?_
       refine st_gop F7 rfl rfl (look_b rfl hb1) (ex_add rfl rfl) rfl rfl fun q8 F8 => ?_
       obtain ⟨x0, hx0, H⟩ := bind_ok H
       obtain ⟨a3, hi0, he0⟩ := own_idx Flat.bool s2 (.head _) Fx.sl93 rfl hx0
       refine st_gop F8 rfl rfl (look_b rfl hb1) (hi0 _ _ _ _ _ _ _ _ _ _ rfl rfl) rfl rfl fun q9 F9 => ?_
       refine st_gop F9 rfl rfl (look_b rfl hb1) (ex_ld Fx.nag4 rfl (Cells.at_ (SL.elcells Flat.bool s2 (.head _) he0 hx0) (o := 0) rfl)) rfl rfl fun q10 F10 => ?_
       refine st_gop F10 rfl rfl (look_b rfl hb1) (ex_not rfl) rfl rfl fun q11 F11 => ?_
       refine st_pr F11 (PR.op (ex_pick_t (ev_b rfl hb1) rfl) <| PR.op (ex_move rfl) <| PR.nil) fun q12 F12 => ?_
       refine bool_split (!x0) (fun hb2 => ?_) (fun hb2 => ?_)
       ·replace H := ite_t hb2 H
        refine st_gop F12 rfl rfl (look_b rfl hb2) (ex_move rfl) rfl rfl fun q13 F13 => ?_
        refine st_gop F13 rfl rfl (look_b rfl hb2) (ex_move rfl) rfl rfl fun q14 F14 => ?_
        refine st_gop F14 rfl rfl (look_b rfl hb2) (ex_add rfl rfl) rfl rfl fun q15 F15 => ?_
        obtain ⟨x1, hx1, H⟩ := bind_ok H
        obtain ⟨a4, hi1, he1⟩ := own_idx Flat.bool s2 (.head _) Fx.sl93 rfl hx1
        refine st_gop F15 rfl rfl (look_b rfl hb2) (hi1 _ _ _ _ _ _ _ _ _ _ rfl rfl) rfl rfl fun q16 F16 => ?_
        refine st_gop F16 rfl rfl (look_b rfl hb2) (ex_ld Fx.nag4 rfl (Cells.at_ (SL.elcells Flat.bool s2 (.head _) he1 hx1) (o := 0) rfl)) rfl rfl fun q17 F17 => ?_
        refine st_gop F17 rfl rfl (look_b rfl hb2) (ex_not rfl) rfl rfl fun q18 F18 => ?_
        refine st_pr F18 (PR.op (ex_pick_t (ev_b rfl hb2) rfl) <| PR.nil) fun q19 F19 => ?_
        refine st_end <| then_n ?_
        refine wp_if F19 rfl (fun hb3 => ?_) (fun hb3 => ?_)
        ·replace H := ite_t hb3 H
         refine wp_seq ?_
         obtain ⟨o4, H3, R3⟩ := bind_ok H
         clear H
         refine wp_cutn (fun a w_ => ∃ g0 : Nat, Fr a 125 [(0, v0), (3, v24), (4, v3), (5, v4), (6, .int .i64 s1.2.2), (7, .pointer (some ⟨g0, 0, none⟩)), (8, .bool o4.2.2.2.2), (31, v24), (32, .int .i64 s1.2.2), (33, .int .i64 (wr (s1.2.2 + 1))), (34, .pointer (some a3)), (35, .bool x0), (36, .bool (!x0)), (39, v24), (40, .int .i64 s1.2.2), (41, .int .i64 (wr (s1.2.2 + 2))), (42, .pointer (some a4)), (43, .bool x1), (44, .bool (!x1))] ∧ SL w [] w_ [Sl Ty.bool v24 x20, Sl Ty.bool v3 s1.1, Sl T_provisoref19_ins v4 s1.2.1, Blk g0 156 [.int .u8 (o4.1.toNat : Int), .int .i64 o4.2.1, .int .i64 o4.2.2.1, .int .i64 o4.2.2.2.1]]) ?_ ?_
         ·have H := H3
          obtain ⟨x2, hx2, H⟩ := bind_ok H
          obtain ⟨x3, hx3, H⟩ := bind_ok H
          obtain ⟨x4, hx4, H⟩ := bind_ok H
          obtain ⟨x5, hx5, H⟩ := bind_ok H
          refine wp_regh Fx.mixed (fun w_ => SL w [] w_ [Sl Ty.bool v24 x20, Sl Ty.bool v3 s1.1, Sl T_provisoref19_ins v4 s1.2.1]) ?_
          have s3 := s2.drew
          have s4 : SL w [] _ [Sl Ty.bool v24 x20, Sl Ty.bool v3 s1.1, Sl T_provisoref19_ins v4 s1.2.1] := s3
          refine hd_take (i := 0) rfl (by kernel_rfl) (by kernel_rfl) (by kernel_rfl) (fun _ hC => ex_move rfl) rfl rfl rfl F19 s4 fun q20 F20 => ?_
          refine hd_take (i := 1) rfl (by kernel_rfl) (by kernel_rfl) (by kernel_rfl) (fun _ hC => ex_move rfl) rfl rfl rfl F20 s4 fun q21 F21 => ?_
          obtain ⟨a5, hi2, hc0⟩ := idxC (C := fun w_ => SL w [] w_ [Sl Ty.bool v24 x20, Sl Ty.bool v3 s1.1, Sl T_provisoref19_ins v4 s1.2.1]) F_provisoref19_ins (fun _ hC => (rdL hr0 hC)) s4 Fx.sl126 rfl hx2
          refine hd_take (i := 2) rfl (by kernel_rfl) (by kernel_rfl) (by kernel_rfl) (fun _ hC => hi2 _ _ _ _ _ _ _ _ _ _ rfl rfl) rfl rfl rfl F21 s4 fun q23 F22 => ?_
          refine hd_take (i := 3) rfl (by kernel_rfl) (by kernel_rfl) (by kernel_rfl) (fun _ hC => ex_ldagg Fx.agg156 rfl (hc0 _ hC) rfl) rfl rfl rfl F22 s4 fun q24 F24 => ?_
          refine hd_take (i := 4) rfl (by kernel_rfl) (by kernel_rfl) (by kernel_rfl) (fun _ hC => ex_move rfl) rfl rfl rfl F24 s4 fun q25 F25 => ?_
          refine hd_take (i := 5) rfl (by kernel_rfl) (by kernel_rfl) (by kernel_rfl) (fun _ hC => ex_move rfl) rfl rfl rfl F25 s4 fun q27 F26 => ?_
          refine hd_take (i := 6) rfl (by kernel_rfl) (by kernel_rfl) (by kernel_rfl) (fun _ hC => ex_add rfl rfl) rfl rfl rfl F26 s4 fun q28 F28 => ?_
          obtain ⟨a6, hi3, hc1⟩ := idxC (C := fun w_ => SL w [] w_ [Sl Ty.bool v24 x20, Sl Ty.bool v3 s1.1, Sl T_provisoref19_ins v4 s1.2.1]) F_provisoref19_ins (fun _ hC => (rdL hr0 hC)) s4 Fx.sl126 rfl hx3
          refine hd_take (i := 7) rfl (by kernel_rfl) (by kernel_rfl) (by kernel_rfl) (fun _ hC => hi3 _ _ _ _ _ _ _ _ _ _ rfl rfl) rfl rfl rfl F28 s4 fun q29 F29 => ?_
          refine hd_take (i := 8) rfl (by kernel_rfl) (by kernel_rfl) (by kernel_rfl) (fun _ hC => ex_ldagg Fx.agg156 rfl (hc1 _ hC) rfl) rfl rfl rfl F29 s4 fun q30 F30 => ?_
          refine hd_take (i := 9) rfl (by kernel_rfl) (by kernel_rfl) (by kernel_rfl) (fun _ hC => ex_move rfl) rfl rfl rfl F30 s4 fun q31 F31 => ?_
          refine hd_take (i := 10) rfl (by kernel_rfl) (by kernel_rfl) (by kernel_rfl) (fun _ hC => ex_move rfl) rfl rfl rfl F31 s4 fun q32 F32 => ?_
          refine hd_take (i := 11) rfl (by kernel_rfl) (by kernel_rfl) (by kernel_rfl) (fun _ hC => ex_add rfl rfl) rfl rfl rfl F32 s4 fun q34 F33 => ?_
          obtain ⟨a7, hi4, hc2⟩ := idxC (C := fun w_ => SL w [] w_ [Sl Ty.bool v24 x20, Sl Ty.bool v3 s1.1, Sl T_provisoref19_ins v4 s1.2.1]) F_provisoref19_ins (fun _ hC => (rdL hr0 hC)) s4 Fx.sl126 rfl hx4
          refine hd_take (i := 12) rfl (by kernel_rfl) (by kernel_rfl) (by kernel_rfl) (fun _ hC => hi4 _ _ _ _ _ _ _ _ _ _ rfl rfl) rfl rfl rfl F33 s4 fun q35 F35 => ?_
          refine hd_take (i := 13) rfl (by kernel_rfl) (by kernel_rfl) (by kernel_rfl) (fun _ hC => ex_ldagg Fx.agg156 rfl (hc2 _ hC) rfl) rfl rfl rfl F35 s4 fun q36 F36 => ?_
          refine hd_many (rs := [14, 18]) (by kernel_rfl) (by decide) (hd_cons (wpOp_of rfl ?_) (hd_cons (wpOp_of rfl ?_) (hd_nil)))
          ·refine st_call (args := [.tmp 50, .tmp 55, .tmp 60]) F36 Fx.fn104 rfl (provisoref19_three_c (a0 := x2) (a1 := x3) (a2 := x4)   hx5) rfl fun v7 w1 q37 hS0 F37 => ?_
           obtain ⟨rfl, hq0⟩ := hS0
           have s5 := s3.add hq0
           have s6 : SL w [] _ [Sl Ty.bool v24 x20, Sl Ty.bool v3 s1.1, Sl T_provisoref19_ins v4 s1.2.1] := s5
           refine kq_end ⟨s6, ?_⟩
           refine hd_many (rs := [15, 18]) (by kernel_rfl) (by decide) (hd_cons (wpOp_of rfl ?_) (hd_cons (wpOp_of rfl ?_) (hd_nil)))
           ·refine st_op F37 (ex_move rfl) rfl rfl rfl fun q38 F38 => ?_
            have s7 : SL w [] _ [Sl Ty.bool v24 x20, Sl Ty.bool v3 s1.1, Sl T_provisoref19_ins v4 s1.2.1] := s5
            refine kq_end ⟨s7, ?_⟩
            refine hd_many (rs := [16, 17, 18]) (by kernel_rfl) (by decide) (hd_cons (wpOp_of rfl ?_) (hd_cons (wpOp_of rfl ?_) (hd_cons (wpOp_of rfl ?_) (hd_nil))))
            ·refine st_op F38 (ex_extract (v := .agg ⟨[.int .u8 (x5.1.op.toNat : Int), .int .i64 x5.1.a, .int .i64 x5.1.b, .int .i64 x5.1.to]⟩) rfl rfl) rfl rfl rfl fun q39 F39 => ?_
             have s8 : SL w [] _ [Sl Ty.bool v24 x20, Sl Ty.bool v3 s1.1, Sl T_provisoref19_ins v4 s1.2.1] := s5
             refine kq_end ⟨s8, ?_⟩
             refine hd_many (rs := [17, 18]) (by kernel_rfl) (by decide) (hd_cons (wpOp_of rfl ?_) (hd_cons (wpOp_of rfl ?_) (hd_nil)))
             ·refine st_op F39 (ex_extract (v := .bool x5.2) rfl rfl) rfl rfl rfl fun q40 F40 => ?_
              have s9 : SL w [] _ [Sl Ty.bool v24 x20, Sl Ty.bool v3 s1.1, Sl T_provisoref19_ins v4 s1.2.1] := s5
              refine kq_end ⟨s9, ?_⟩
              refine hd_one (i := 18) rfl (by kernel_rfl) ?_
              refine st_alloc F40 s5 Fx.zero156 rfl rfl fun g1 w2 q41 F41 s10 => ?_
              have s11 : SL w [] _ [Sl Ty.bool v24 x20, Sl Ty.bool v3 s1.1, Sl T_provisoref19_ins v4 s1.2.1] := s10.drop
              refine kq_end ⟨s11, ?_⟩
              refine hd_one (i := 19) rfl (by kernel_rfl) ?_
              have s12 := s10
              refine st_storea F41 s12 rfl rfl Fx.sz156 (one_cons rfl (one_cons rfl (one_cons rfl (one_cons rfl one_nil)))) (Nat.le_of_ble_eq_true rfl) fun w3 q42 F42 s13 => ?_
              replace s13 : SL w [] w3 [Blk g1 156 [.int .u8 (x5.1.op.toNat : Int), .int .i64 x5.1.a, .int .i64 x5.1.b, .int .i64 x5.1.to], Sl Ty.bool v24 x20, Sl Ty.bool v3 s1.1, Sl T_provisoref19_ins v4 s1.2.1] := s13
              have s14 : SL w [] _ [Sl Ty.bool v24 x20, Sl Ty.bool v3 s1.1, Sl T_provisoref19_ins v4 s1.2.1] := s13.drop
              refine kq_end ⟨s14, ?_⟩
              refine hd_one (i := 20) rfl (by kernel_rfl) ?_
              refine st_op F42 (ex_asg rfl) rfl rfl rfl fun q43 F43 => ?_
              have s15 : SL w [] _ [Sl Ty.bool v24 x20, Sl Ty.bool v3 s1.1, Sl T_provisoref19_ins v4 s1.2.1] := s13.drop
              refine kq_end ⟨s15, ?_⟩
              refine hd_done (by kernel_rfl) ?_
              obtain rfl := some_ok H
              refine then_n ?_
              exact ⟨g1, F43.sub ⟨rfl, rfl, rfl, rfl, rfl, rfl, rfl, rfl, rfl, rfl, rfl, rfl, rfl, rfl, rfl, rfl, rfl, rfl, rfl, trivial⟩, s13.f3.f3.f3⟩
             ·refine st_alloc F39 s5 Fx.zero156 rfl rfl fun g2 w4 q44 F44 s16 => ?_
              have s17 : SL w [] _ [Sl Ty.bool v24 x20, Sl Ty.bool v3 s1.1, Sl T_provisoref19_ins v4 s1.2.1] := s16.drop
              refine kq_end ⟨s17, ?_⟩
              refine hd_many (rs := [17, 19]) (by kernel_rfl) (by decide) (hd_cons (wpOp_of rfl ?_) (hd_cons (wpOp_of rfl ?_) (hd_nil)))
              ·refine st_op F44 (ex_extract (v := .bool x5.2) rfl rfl) rfl rfl rfl fun q45 F45 => ?_
               have s18 : SL w [] _ [Sl Ty.bool v24 x20, Sl Ty.bool v3 s1.1, Sl T_provisoref19_ins v4 s1.2.1] := s16.drop
               refine kq_end ⟨s18, ?_⟩
               refine hd_one (i := 19) rfl (by kernel_rfl) ?_
               have s19 := s16
               refine st_storea F45 s19 rfl rfl Fx.sz156 (one_cons rfl (one_cons rfl (one_cons rfl (one_cons rfl one_nil)))) (Nat.le_of_ble_eq_true rfl) fun w5 q46 F46 s20 => ?_
               replace s20 : SL w [] w5 [Blk g2 156 [.int .u8 (x5.1.op.toNat : Int), .int .i64 x5.1.a, .int .i64 x5.1.b, .int .i64 x5.1.to], Sl Ty.bool v24 x20, Sl Ty.bool v3 s1.1, Sl T_provisoref19_ins v4 s1.2.1] := s20
               have s21 : SL w [] _ [Sl Ty.bool v24 x20, Sl Ty.bool v3 s1.1, Sl T_provisoref19_ins v4 s1.2.1] := s20.drop
               refine kq_end ⟨s21, ?_⟩
               refine hd_one (i := 20) rfl (by kernel_rfl) ?_
               refine st_op F46 (ex_asg rfl) rfl rfl rfl fun q47 F47 => ?_
               have s22 : SL w [] _ [Sl Ty.bool v24 x20, Sl Ty.bool v3 s1.1, Sl T_provisoref19_ins v4 s1.2.1] := s20.drop
               refine kq_end ⟨s22, ?_⟩
               refine hd_done (by kernel_rfl) ?_
               obtain rfl := some_ok H
               refine then_n ?_
               exact ⟨g2, F47.sub ⟨rfl, rfl, rfl, rfl, rfl, rfl, rfl, rfl, rfl, rfl, rfl, rfl, rfl, rfl, rfl, rfl, rfl, rfl, rfl, trivial⟩, s20.f3.f3.f3⟩
              ·have s23 := s16
               refine st_storea F44 s23 rfl rfl Fx.sz156 (one_cons rfl (one_cons rfl (one_cons rfl (one_cons rfl one_nil)))) (Nat.le_of_ble_eq_true rfl) fun w6 q48 F48 s24 => ?_
               replace s24 : SL w [] w6 [Blk g2 156 [.int .u8 (x5.1.op.toNat : Int), .int .i64 x5.1.a, .int .i64 x5.1.b, .int .i64 x5.1.to], Sl Ty.bool v24 x20, Sl Ty.bool v3 s1.1, Sl T_provisoref19_ins v4 s1.2.1] := s24
               have s25 : SL w [] _ [Sl Ty.bool v24 x20, Sl Ty.bool v3 s1.1, Sl T_provisoref19_ins v4 s1.2.1] := s24.drop
               refine kq_end ⟨s25, ?_⟩
               refine hd_one (i := 17) rfl (by kernel_rfl) ?_
               refine st_op F48 (ex_extract (v := .bool x5.2) rfl rfl) rfl rfl rfl fun q50 F49 => ?_
               have s26 : SL w [] _ [Sl Ty.bool v24 x20, Sl Ty.bool v3 s1.1, Sl T_provisoref19_ins v4 s1.2.1] := s24.drop
               refine kq_end ⟨s26, ?_⟩
               refine hd_one (i := 20) rfl (by kernel_rfl) ?_
               refine st_op F49 (ex_asg rfl) rfl rfl rfl fun q51 F51 => ?_
               have s27 : SL w [] _ [Sl Ty.bool v24 x20, Sl Ty.bool v3 s1.1, Sl T_provisoref19_ins v4 s1.2.1] := s24.drop
               refine kq_end ⟨s27, ?_⟩
               refine hd_done (by kernel_rfl) ?_
               obtain rfl := some_ok H
               refine then_n ?_
               exact ⟨g2, F51.sub ⟨rfl, rfl, rfl, rfl, rfl, rfl, rfl, rfl, rfl, rfl, rfl, rfl, rfl, rfl, rfl, rfl, rfl, rfl, rfl, trivial⟩, s24.f3.f3.f3⟩
            ·refine st_op F38 (ex_extract (v := .bool x5.2) rfl rfl) rfl rfl rfl fun q52 F52 => ?_
             have s28 : SL w [] _ [Sl Ty.bool v24 x20, Sl Ty.bool v3 s1.1, Sl T_provisoref19_ins v4 s1.2.1] := s5
             refine kq_end ⟨s28, ?_⟩
             refine hd_many (rs := [16, 18]) (by kernel_rfl) (by decide) (hd_cons (wpOp_of rfl ?_) (hd_cons (wpOp_of rfl ?_) (hd_nil)))
             ·refine st_op F52 (ex_extract (v := .agg ⟨[.int .u8 (x5.1.op.toNat : Int), .int .i64 x5.1.a, .int .i64 x5.1.b, .int .i64 x5.1.to]⟩) rfl rfl) rfl rfl rfl fun q54 F53 => ?_
              have s30 : SL w [] _ [Sl Ty.bool v24 x20, Sl Ty.bool v3 s1.1, Sl T_provisoref19_ins v4 s1.2.1] := s5
              refine kq_end ⟨s30, ?_⟩
              refine hd_one (i := 18) rfl (by kernel_rfl) ?_
              refine st_alloc F53 s5 Fx.zero156 rfl rfl fun g3 w7 q55 F55 s31 => ?_
              have s32 : SL w [] _ [Sl Ty.bool v24 x20, Sl Ty.bool v3 s1.1, Sl T_provisoref19_ins v4 s1.2.1] := s31.drop
              refine kq_end ⟨s32, ?_⟩
              refine hd_one (i := 19) rfl (by kernel_rfl) ?_
              have s33 := s31
              refine st_storea F55 s33 rfl rfl Fx.sz156 (one_cons rfl (one_cons rfl (one_cons rfl (one_cons rfl one_nil)))) (Nat.le_of_ble_eq_true rfl) fun w8 q56 F56 s34 => ?_
              replace s34 : SL w [] w8 [Blk g3 156 [.int .u8 (x5.1.op.toNat : Int), .int .i64 x5.1.a, .int .i64 x5.1.b, .int .i64 x5.1.to], Sl Ty.bool v24 x20, Sl Ty.bool v3 s1.1, Sl T_provisoref19_ins v4 s1.2.1] := s34
              have s35 : SL w [] _ [Sl Ty.bool v24 x20, Sl Ty.bool v3 s1.1, Sl T_provisoref19_ins v4 s1.2.1] := s34.drop
              refine kq_end ⟨s35, ?_⟩
              refine hd_one (i := 20) rfl (by kernel_rfl) ?_
              refine st_op F56 (ex_asg rfl) rfl rfl rfl fun q58 F57 => ?_
              have s36 : SL w [] _ [Sl Ty.bool v24 x20, Sl Ty.bool v3 s1.1, Sl T_provisoref19_ins v4 s1.2.1] := s34.drop
              refine kq_end ⟨s36, ?_⟩
              refine hd_done (by kernel_rfl) ?_
              obtain rfl := some_ok H
              refine then_n ?_
              exact ⟨g3, F57.sub ⟨rfl, rfl, rfl, rfl, rfl, rfl, rfl, rfl, rfl, rfl, rfl, rfl, rfl, rfl, rfl, rfl, rfl, rfl, rfl, trivial⟩, s34.f3.f3.f3⟩
             ·refine st_alloc F52 s5 Fx.zero156 rfl rfl fun g4 w9 q59 F59 s37 => ?_
              have s38 : SL w [] _ [Sl Ty.bool v24 x20, Sl Ty.bool v3 s1.1, Sl T_provisoref19_ins v4 s1.2.1] := s37.drop
              refine kq_end ⟨s38, ?_⟩
              refine hd_one (i := 16) rfl (by kernel_rfl) ?_
              refine st_op F59 (ex_extract (v := .agg ⟨[.int .u8 (x5.1.op.toNat : Int), .int .i64 x5.1.a, .int .i64 x5.1.b, .int .i64 x5.1.to]⟩) rfl rfl) rfl rfl rfl fun q60 F60 => ?_
              have s39 : SL w [] _ [Sl Ty.bool v24 x20, Sl Ty.bool v3 s1.1, Sl T_provisoref19_ins v4 s1.2.1] := s37.drop
              refine kq_end ⟨s39, ?_⟩
              refine hd_one (i := 19) rfl (by kernel_rfl) ?_
              have s40 := s37
              refine st_storea F60 s40 rfl rfl Fx.sz156 (one_cons rfl (one_cons rfl (one_cons rfl (one_cons rfl one_nil)))) (Nat.le_of_ble_eq_true rfl) fun w10 q61 F61 s41 => ?_
              replace s41 : SL w [] w10 [Blk g4 156 [.int .u8 (x5.1.op.toNat : Int), .int .i64 x5.1.a, .int .i64 x5.1.b, .int .i64 x5.1.to], Sl Ty.bool v24 x20, Sl Ty.bool v3 s1.1, Sl T_provisoref19_ins v4 s1.2.1] := s41
              have s42 : SL w [] _ [Sl Ty.bool v24 x20, Sl Ty.bool v3 s1.1, Sl T_provisoref19_ins v4 s1.2.1] := s41.drop
              refine kq_end ⟨s42, ?_⟩
              refine hd_one (i := 20) rfl (by kernel_rfl) ?_
              refine st_op F61 (ex_asg rfl) rfl rfl rfl fun q62 F62 => ?_
              have s43 : SL w [] _ [Sl Ty.bool v24 x20, Sl Ty.bool v3 s1.1, Sl T_provisoref19_ins v4 s1.2.1] := s41.drop
              refine kq_end ⟨s43, ?_⟩
              refine hd_done (by kernel_rfl) ?_
              obtain rfl := some_ok H
              refine then_n ?_
              exact ⟨g4, F62.sub ⟨rfl, rfl, rfl, rfl, rfl, rfl, rfl, rfl, rfl, rfl, rfl, rfl, rfl, rfl, rfl, rfl, rfl, rfl, rfl, trivial⟩, s41.f3.f3.f3⟩
            ·refine st_alloc F38 s5 Fx.zero156 rfl rfl fun g5 w11 q63 F63 s44 => ?_
             have s45 : SL w [] _ [Sl Ty.bool v24 x20, Sl Ty.bool v3 s1.1, Sl T_provisoref19_ins v4 s1.2.1] := s44.drop
             refine kq_end ⟨s45, ?_⟩
             refine hd_many (rs := [16, 17]) (by kernel_rfl) (by decide) (hd_cons (wpOp_of rfl ?_) (hd_cons (wpOp_of rfl ?_) (hd_nil)))
             ·refine st_op F63 (ex_extract (v := .agg ⟨[.int .u8 (x5.1.op.toNat : Int), .int .i64 x5.1.a, .int .i64 x5.1.b, .int .i64 x5.1.to]⟩) rfl rfl) rfl rfl rfl fun q64 F64 => ?_
              have s46 : SL w [] _ [Sl Ty.bool v24 x20, Sl Ty.bool v3 s1.1, Sl T_provisoref19_ins v4 s1.2.1] := s44.drop
              refine kq_end ⟨s46, ?_⟩
              refine hd_many (rs := [17, 19]) (by kernel_rfl) (by decide) (hd_cons (wpOp_of rfl ?_) (hd_cons (wpOp_of rfl ?_) (hd_nil)))
              ·refine st_op F64 (ex_extract (v := .bool x5.2) rfl rfl) rfl rfl rfl fun q65 F65 => ?_
               have s47 : SL w [] _ [Sl Ty.bool v24 x20, Sl Ty.bool v3 s1.1, Sl T_provisoref19_ins v4 s1.2.1] := s44.drop
               refine kq_end ⟨s47, ?_⟩
               refine hd_one (i := 19) rfl (by kernel_rfl) ?_
               have s48 := s44
               refine st_storea F65 s48 rfl rfl Fx.sz156 (one_cons rfl (one_cons rfl (one_cons rfl (one_cons rfl one_nil)))) (Nat.le_of_ble_eq_true rfl) fun w12 q66 F66 s49 => ?_
               replace s49 : SL w [] w12 [Blk g5 156 [.int .u8 (x5.1.op.toNat : Int), .int .i64 x5.1.a, .int .i64 x5.1.b, .int .i64 x5.1.to], Sl Ty.bool v24 x20, Sl Ty.bool v3 s1.1, Sl T_provisoref19_ins v4 s1.2.1] := s49
               have s50 : SL w [] _ [Sl Ty.bool v24 x20, Sl Ty.bool v3 s1.1, Sl T_provisoref19_ins v4 s1.2.1] := s49.drop
               refine kq_end ⟨s50, ?_⟩
               refine hd_one (i := 20) rfl (by kernel_rfl) ?_
               refine st_op F66 (ex_asg rfl) rfl rfl rfl fun q67 F67 => ?_
               have s51 : SL w [] _ [Sl Ty.bool v24 x20, Sl Ty.bool v3 s1.1, Sl T_provisoref19_ins v4 s1.2.1] := s49.drop
               refine kq_end ⟨s51, ?_⟩
               refine hd_done (by kernel_rfl) ?_
               obtain rfl := some_ok H
               refine then_n ?_
               exact ⟨g5, F67.sub ⟨rfl, rfl, rfl, rfl, rfl, rfl, rfl, rfl, rfl, rfl, rfl, rfl, rfl, rfl, rfl, rfl, rfl, rfl, rfl, trivial⟩, s49.f3.f3.f3⟩
              ·have s52 := s44
               refine st_storea F64 s52 rfl rfl Fx.sz156 (one_cons rfl (one_cons rfl (one_cons rfl (one_cons rfl one_nil)))) (Nat.le_of_ble_eq_true rfl) fun w13 q68 F68 s53 => ?_
               replace s53 : SL w [] w13 [Blk g5 156 [.int .u8 (x5.1.op.toNat : Int), .int .i64 x5.1.a, .int .i64 x5.1.b, .int .i64 x5.1.to], Sl Ty.bool v24 x20, Sl Ty.bool v3 s1.1, Sl T_provisoref19_ins v4 s1.2.1] := s53
               have s54 : SL w [] _ [Sl Ty.bool v24 x20, Sl Ty.bool v3 s1.1, Sl T_provisoref19_ins v4 s1.2.1] := s53.drop
               refine kq_end ⟨s54, ?_⟩
               refine hd_one (i := 17) rfl (by kernel_rfl) ?_
               refine st_op F68 (ex_extract (v := .bool x5.2) rfl rfl) rfl rfl rfl fun q69 F69 => ?_
               have s56 : SL w [] _ [Sl Ty.bool v24 x20, Sl Ty.bool v3 s1.1, Sl T_provisoref19_ins v4 s1.2.1] := s53.drop
               refine kq_end ⟨s56, ?_⟩
               refine hd_one (i := 20) rfl (by kernel_rfl) ?_
               refine st_op F69 (ex_asg rfl) rfl rfl rfl fun q70 F70 => ?_
               have s57 : SL w [] _ [Sl Ty.bool v24 x20, Sl Ty.bool v3 s1.1, Sl T_provisoref19_ins v4 s1.2.1] := s53.drop
               refine kq_end ⟨s57, ?_⟩
               refine hd_done (by kernel_rfl) ?_
               obtain rfl := some_ok H
               refine then_n ?_
               exact ⟨g5, F70.sub ⟨rfl, rfl, rfl, rfl, rfl, rfl, rfl, rfl, rfl, rfl, rfl, rfl, rfl, rfl, rfl, rfl, rfl, rfl, rfl, trivial⟩, s53.f3.f3.f3⟩
             ·refine st_op F63 (ex_extract (v := .bool x5.2) rfl rfl) rfl rfl rfl fun q71 F71 => ?_
              have s58 : SL w [] _ [Sl Ty.bool v24 x20, Sl Ty.bool v3 s1.1, Sl T_provisoref19_ins v4 s1.2.1] := s44.drop
              refine kq_end ⟨s58, ?_⟩
              refine hd_one (i := 16) rfl (by kernel_rfl) ?_
              refine st_op F71 (ex_extract (v := .agg ⟨[.int .u8 (x5.1.op.toNat : Int), .int .i64 x5.1.a, .int .i64 x5.1.b, .int .i64 x5.1.to]⟩) rfl rfl) rfl rfl rfl fun q72 F72 => ?_
              have s59 : SL w [] _ [Sl Ty.bool v24 x20, Sl Ty.bool v3 s1.1, Sl T_provisoref19_ins v4 s1.2.1] := s44.drop
              refine kq_end ⟨s59, ?_⟩
              refine hd_one (i := 19) rfl (by kernel_rfl) ?_
              have s60 := s44
              refine st_storea F72 s60 rfl rfl Fx.sz156 (one_cons rfl (one_cons rfl (one_cons rfl (one_cons rfl one_nil)))) (Nat.le_of_ble_eq_true rfl) fun w14 q73 F73 s61 => ?_
              replace s61 : SL w [] w14 [Blk g5 156 [.int .u8 (x5.1.op.toNat : Int), .int .i64 x5.1.a, .int .i64 x5.1.b, .int .i64 x5.1.to], Sl Ty.bool v24 x20, Sl Ty.bool v3 s1.1, Sl T_provisoref19_ins v4 s1.2.1] := s61
              have s62 : SL w [] _ [Sl Ty.bool v24 x20, Sl Ty.bool v3 s1.1, Sl T_provisoref19_ins v4 s1.2.1] := s61.drop
              refine kq_end ⟨s62, ?_⟩
              refine hd_one (i := 20) rfl (by kernel_rfl) ?_
              refine st_op F73 (ex_asg rfl) rfl rfl rfl fun q74 F74 => ?_
              have s63 : SL w [] _ [Sl Ty.bool v24 x20, Sl Ty.bool v3 s1.1, Sl T_provisoref19_ins v4 s1.2.1] := s61.drop
              refine kq_end ⟨s63, ?_⟩
              refine hd_done (by kernel_rfl) ?_
              obtain rfl := some_ok H
              refine then_n ?_
              exact ⟨g5, F74.sub ⟨rfl, rfl, rfl, rfl, rfl, rfl, rfl, rfl, rfl, rfl, rfl, rfl, rfl, rfl, rfl, rfl, rfl, rfl, rfl, trivial⟩, s61.f3.f3.f3⟩
           ·refine st_alloc F37 s5 Fx.zero156 rfl rfl fun g6 w15 q75 F75 s64 => ?_
            have s65 : SL w [] _ [Sl Ty.bool v24 x20, Sl Ty.bool v3 s1.1, Sl T_provisoref19_ins v4 s1.2.1] := s64.drop
            refine kq_end ⟨s65, ?_⟩
            refine hd_one (i := 15) rfl (by kernel_rfl) ?_
            refine st_op F75 (ex_move rfl) rfl rfl rfl fun q76 F76 => ?_
            have s66 : SL w [] _ [Sl Ty.bool v24 x20, Sl Ty.bool v3 s1.1, Sl T_provisoref19_ins v4 s1.2.1] := s64.drop
            refine kq_end ⟨s66, ?_⟩
            refine hd_many (rs := [16, 17]) (by kernel_rfl) (by decide) (hd_cons (wpOp_of rfl ?_) (hd_cons (wpOp_of rfl ?_) (hd_nil)))
            ·refine st_op F76 (ex_extract (v := .agg ⟨[.int .u8 (x5.1.op.toNat : Int), .int .i64 x5.1.a, .int .i64 x5.1.b, .int .i64 x5.1.to]⟩) rfl rfl) rfl rfl rfl fun q77 F77 => ?_
             have s67 : SL w [] _ [Sl Ty.bool v24 x20, Sl Ty.bool v3 s1.1, Sl T_provisoref19_ins v4 s1.2.1] := s64.drop
             refine kq_end ⟨s67, ?_⟩
             refine hd_many (rs := [17, 19]) (by kernel_rfl) (by decide) (hd_cons (wpOp_of rfl ?_) (hd_cons (wpOp_of rfl ?_) (hd_nil)))
             ·refine st_op F77 (ex_extract (v := .bool x5.2) rfl rfl) rfl rfl rfl fun q78 F78 => ?_
              have s68 : SL w [] _ [Sl Ty.bool v24 x20, Sl Ty.bool v3 s1.1, Sl T_provisoref19_ins v4 s1.2.1] := s64.drop
              refine kq_end ⟨s68, ?_⟩
              refine hd_one (i := 19) rfl (by kernel_rfl) ?_
              have s69 := s64
              refine st_storea F78 s69 rfl rfl Fx.sz156 (one_cons rfl (one_cons rfl (one_cons rfl (one_cons rfl one_nil)))) (Nat.le_of_ble_eq_true rfl) fun w16 q80 F79 s70 => ?_
              replace s70 : SL w [] w16 [Blk g6 156 [.int .u8 (x5.1.op.toNat : Int), .int .i64 x5.1.a, .int .i64 x5.1.b, .int .i64 x5.1.to], Sl Ty.bool v24 x20, Sl Ty.bool v3 s1.1, Sl T_provisoref19_ins v4 s1.2.1] := s70
              have s71 : SL w [] _ [Sl Ty.bool v24 x20, Sl Ty.bool v3 s1.1, Sl T_provisoref19_ins v4 s1.2.1] := s70.drop
              refine kq_end ⟨s71, ?_⟩
              refine hd_one (i := 20) rfl (by kernel_rfl) ?_
              refine st_op F79 (ex_asg rfl) rfl rfl rfl fun q81 F81 => ?_
              have s72 : SL w [] _ [Sl Ty.bool v24 x20, Sl Ty.bool v3 s1.1, Sl T_provisoref19_ins v4 s1.2.1] := s70.drop
              refine kq_end ⟨s72, ?_⟩
              refine hd_done (by kernel_rfl) ?_
              obtain rfl := some_ok H
              refine then_n ?_
              exact ⟨g6, F81.sub ⟨rfl, rfl, rfl, rfl, rfl, rfl, rfl, rfl, rfl, rfl, rfl, rfl, rfl, rfl, rfl, rfl, rfl, rfl, rfl, trivial⟩, s70.f3.f3.f3⟩
             ·have s73 := s64
              refine st_storea F77 s73 rfl rfl Fx.sz156 (one_cons rfl (one_cons rfl (one_cons rfl (one_cons rfl one_nil)))) (Nat.le_of_ble_eq_true rfl) fun w17 q82 F82 s74 => ?_
              replace s74 : SL w [] w17 [Blk g6 156 [.int .u8 (x5.1.op.toNat : Int), .int .i64 x5.1.a, .int .i64 x5.1.b, .int .i64 x5.1.to], Sl Ty.bool v24 x20, Sl Ty.bool v3 s1.1, Sl T_provisoref19_ins v4 s1.2.1] := s74
              have s75 : SL w [] _ [Sl Ty.bool v24 x20, Sl Ty.bool v3 s1.1, Sl T_provisoref19_ins v4 s1.2.1] := s74.drop
              refine kq_end ⟨s75, ?_⟩
              refine hd_one (i := 17) rfl (by kernel_rfl) ?_
              refine st_op F82 (ex_extract (v := .bool x5.2) rfl rfl) rfl rfl rfl fun q83 F83 => ?_
              have s76 : SL w [] _ [Sl Ty.bool v24 x20, Sl Ty.bool v3 s1.1, Sl T_provisoref19_ins v4 s1.2.1] := s74.drop
              refine kq_end ⟨s76, ?_⟩
              refine hd_one (i := 20) rfl (by kernel_rfl) ?_
              refine st_op F83 (ex_asg rfl) rfl rfl rfl fun q84 F84 => ?_
              have s77 : SL w [] _ [Sl Ty.bool v24 x20, Sl Ty.bool v3 s1.1, Sl T_provisoref19_ins v4 s1.2.1] := s74.drop
              refine kq_end ⟨s77, ?_⟩
              refine hd_done (by kernel_rfl) ?_
              obtain rfl := some_ok H
              refine then_n ?_
              exact ⟨g6, F84.sub ⟨rfl, rfl, rfl, rfl, rfl, rfl, rfl, rfl, rfl, rfl, rfl, rfl, rfl, rfl, rfl, rfl, rfl, rfl, rfl, trivial⟩, s74.f3.f3.f3⟩
            ·refine st_op F76 (ex_extract (v := .bool x5.2) rfl rfl) rfl rfl rfl fun q86 F85 => ?_
             have s78 : SL w [] _ [Sl Ty.bool v24 x20, Sl Ty.bool v3 s1.1, Sl T_provisoref19_ins v4 s1.2.1] := s64.drop
             refine kq_end ⟨s78, ?_⟩
             refine hd_one (i := 16) rfl (by kernel_rfl) ?_
             refine st_op F85 (ex_extract (v := .agg ⟨[.int .u8 (x5.1.op.toNat : Int), .int .i64 x5.1.a, .int .i64 x5.1.b, .int .i64 x5.1.to]⟩) rfl rfl) rfl rfl rfl fun q87 F87 => ?_
             have s79 : SL w [] _ [Sl Ty.bool v24 x20, Sl Ty.bool v3 s1.1, Sl T_provisoref19_ins v4 s1.2.1] := s64.drop
             refine kq_end ⟨s79, ?_⟩
             refine hd_one (i := 19) rfl (by kernel_rfl) ?_
             have s80 := s64
             refine st_storea F87 s80 rfl rfl Fx.sz156 (one_cons rfl (one_cons rfl (one_cons rfl (one_cons rfl one_nil)))) (Nat.le_of_ble_eq_true rfl) fun w18 q88 F88 s82 => ?_
             replace s82 : SL w [] w18 [Blk g6 156 [.int .u8 (x5.1.op.toNat : Int), .int .i64 x5.1.a, .int .i64 x5.1.b, .int .i64 x5.1.to], Sl Ty.bool v24 x20, Sl Ty.bool v3 s1.1, Sl T_provisoref19_ins v4 s1.2.1] := s82
             have s83 : SL w [] _ [Sl Ty.bool v24 x20, Sl Ty.bool v3 s1.1, Sl T_provisoref19_ins v4 s1.2.1] := s82.drop
             refine kq_end ⟨s83, ?_⟩
             refine hd_one (i := 20) rfl (by kernel_rfl) ?_
             refine st_op F88 (ex_asg rfl) rfl rfl rfl fun q90 F89 => ?_
             have s84 : SL w [] _ [Sl Ty.bool v24 x20, Sl Ty.bool v3 s1.1, Sl T_provisoref19_ins v4 s1.2.1] := s82.drop
             refine kq_end ⟨s84, ?_⟩
             refine hd_done (by kernel_rfl) ?_
             obtain rfl := some_ok H
             refine then_n ?_
             exact ⟨g6, F89.sub ⟨rfl, rfl, rfl, rfl, rfl, rfl, rfl, rfl, rfl, rfl, rfl, rfl, rfl, rfl, rfl, rfl, rfl, rfl, rfl, trivial⟩, s82.f3.f3.f3⟩
          ·refine st_alloc F36 s3 Fx.zero156 rfl rfl fun g7 w19 q91 F91 s85 => ?_
           have s86 : SL w [] _ [Sl Ty.bool v24 x20, Sl Ty.bool v3 s1.1, Sl T_provisoref19_ins v4 s1.2.1] := s85.drop
           refine kq_end ⟨s86, ?_⟩
           refine hd_one (i := 14) rfl (by kernel_rfl) ?_
           refine st_call (args := [.tmp 50, .tmp 55, .tmp 60]) F91 Fx.fn104 rfl (provisoref19_three_c (a0 := x2) (a1 := x3) (a2 := x4)   hx5) rfl fun v8 w20 q92 hS1 F92 => ?_
           obtain ⟨rfl, hq1⟩ := hS1
           have s87 := s85.add hq1
           have s88 : SL w [] _ [Sl Ty.bool v24 x20, Sl Ty.bool v3 s1.1, Sl T_provisoref19_ins v4 s1.2.1] := s87.drop
           refine kq_end ⟨s88, ?_⟩
           refine hd_one (i := 15) rfl (by kernel_rfl) ?_
           refine st_op F92 (ex_move rfl) rfl rfl rfl fun q94 F93 => ?_
           have s89 : SL w [] _ [Sl Ty.bool v24 x20, Sl Ty.bool v3 s1.1, Sl T_provisoref19_ins v4 s1.2.1] := s87.drop
           refine kq_end ⟨s89, ?_⟩
           refine hd_many (rs := [16, 17]) (by kernel_rfl) (by decide) (hd_cons (wpOp_of rfl ?_) (hd_cons (wpOp_of rfl ?_) (hd_nil)))
           ·refine st_op F93 (ex_extract (v := .agg ⟨[.int .u8 (x5.1.op.toNat : Int), .int .i64 x5.1.a, .int .i64 x5.1.b, .int .i64 x5.1.to]⟩) rfl rfl) rfl rfl rfl fun q95 F95 => ?_
            have s90 : SL w [] _ [Sl Ty.bool v24 x20, Sl Ty.bool v3 s1.1, Sl T_provisoref19_ins v4 s1.2.1] := s87.drop
            refine kq_end ⟨s90, ?_⟩
            refine hd_many (rs := [17, 19]) (by kernel_rfl) (by decide) (hd_cons (wpOp_of rfl ?_) (hd_cons (wpOp_of rfl ?_) (hd_nil)))
            ·refine st_op F95 (ex_extract (v := .bool x5.2) rfl rfl) rfl rfl rfl fun q96 F96 => ?_
             have s93 : SL w [] _ [Sl Ty.bool v24 x20, Sl Ty.bool v3 s1.1, Sl T_provisoref19_ins v4 s1.2.1] := s87.drop
             refine kq_end ⟨s93, ?_⟩
             refine hd_one (i := 19) rfl (by kernel_rfl) ?_
             have s94 := s87
             refine st_storea F96 s94 rfl rfl Fx.sz156 (one_cons rfl (one_cons rfl (one_cons rfl (one_cons rfl one_nil)))) (Nat.le_of_ble_eq_true rfl) fun w21 q97 F97 s95 => ?_
             replace s95 : SL w [] w21 [Blk g7 156 [.int .u8 (x5.1.op.toNat : Int), .int .i64 x5.1.a, .int .i64 x5.1.b, .int .i64 x5.1.to], Sl Ty.bool v24 x20, Sl Ty.bool v3 s1.1, Sl T_provisoref19_ins v4 s1.2.1] := s95
             have s96 : SL w [] _ [Sl Ty.bool v24 x20, Sl Ty.bool v3 s1.1, Sl T_provisoref19_ins v4 s1.2.1] := s95.drop
             refine kq_end ⟨s96, ?_⟩
             refine hd_one (i := 20) rfl (by kernel_rfl) ?_
             refine st_op F97 (ex_asg rfl) rfl rfl rfl fun q98 F98 => ?_
             have s97 : SL w [] _ [Sl Ty.bool v24 x20, Sl Ty.bool v3 s1.1, Sl T_provisoref19_ins v4 s1.2.1] := s95.drop
             refine kq_end ⟨s97, ?_⟩
             refine hd_done (by kernel_rfl) ?_
             obtain rfl := some_ok H
             refine then_n ?_
             exact ⟨g7, F98.sub ⟨rfl, rfl, rfl, rfl, rfl, rfl, rfl, rfl, rfl, rfl, rfl, rfl, rfl, rfl, rfl, rfl, rfl, rfl, rfl, trivial⟩, s95.f3.f3.f3⟩
            ·have s98 := s87
             refine st_storea F95 s98 rfl rfl Fx.sz156 (one_cons rfl (one_cons rfl (one_cons rfl (one_cons rfl one_nil)))) (Nat.le_of_ble_eq_true rfl) fun w22 q99 F99 s99 => ?_
             replace s99 : SL w [] w22 [Blk g7 156 [.int .u8 (x5.1.op.toNat : Int), .int .i64 x5.1.a, .int .i64 x5.1.b, .int .i64 x5.1.to], Sl Ty.bool v24 x20, Sl Ty.bool v3 s1.1, Sl T_provisoref19_ins v4 s1.2.1] := s99
             have s100 : SL w [] _ [Sl Ty.bool v24 x20, Sl Ty.bool v3 s1.1, Sl T_provisoref19_ins v4 s1.2.1] := s99.drop
             refine kq_end ⟨s100, ?_⟩
             refine hd_one (i := 17) rfl (by kernel_rfl) ?_
             refine st_op F99 (ex_extract (v := .bool x5.2) rfl rfl) rfl rfl rfl fun q100 F100 => ?_
             have s101 : SL w [] _ [Sl Ty.bool v24 x20, Sl Ty.bool v3 s1.1, Sl T_provisoref19_ins v4 s1.2.1] := s99.drop
             refine kq_end ⟨s101, ?_⟩
             refine hd_one (i := 20) rfl (by kernel_rfl) ?_
             refine st_op F100 (ex_asg rfl) rfl rfl rfl fun q101 F101 => ?_
             have s102 : SL w [] _ [Sl Ty.bool v24 x20, Sl Ty.bool v3 s1.1, Sl T_provisoref19_ins v4 s1.2.1] := s99.drop
             refine kq_end ⟨s102, ?_⟩
             refine hd_done (by kernel_rfl) ?_
             obtain rfl := some_ok H
             refine then_n ?_
             exact ⟨g7, F101.sub ⟨rfl, rfl, rfl, rfl, rfl, rfl, rfl, rfl, rfl, rfl, rfl, rfl, rfl, rfl, rfl, rfl, rfl, rfl, rfl, trivial⟩, s99.f3.f3.f3⟩
           ·refine st_op F93 (ex_extract (v := .bool x5.2) rfl rfl) rfl rfl rfl fun q102 F102 => ?_
            have s103 : SL w [] _ [Sl Ty.bool v24 x20, Sl Ty.bool v3 s1.1, Sl T_provisoref19_ins v4 s1.2.1] := s87.drop
            refine kq_end ⟨s103, ?_⟩
            refine hd_one (i := 16) rfl (by kernel_rfl) ?_
            refine st_op F102 (ex_extract (v := .agg ⟨[.int .u8 (x5.1.op.toNat : Int), .int .i64 x5.1.a, .int .i64 x5.1.b, .int .i64 x5.1.to]⟩) rfl rfl) rfl rfl rfl fun q103 F103 => ?_
            have s104 : SL w [] _ [Sl Ty.bool v24 x20, Sl Ty.bool v3 s1.1, Sl T_provisoref19_ins v4 s1.2.1] := s87.drop
            refine kq_end ⟨s104, ?_⟩
            refine hd_one (i := 19) rfl (by kernel_rfl) ?_
            have s105 := s87
            refine st_storea F103 s105 rfl rfl Fx.sz156 (one_cons rfl (one_cons rfl (one_cons rfl (one_cons rfl one_nil)))) (Nat.le_of_ble_eq_true rfl) fun w23 q104 F104 s106 => ?_
            replace s106 : SL w [] w23 [Blk g7 156 [.int .u8 (x5.1.op.toNat : Int), .int .i64 x5.1.a, .int .i64 x5.1.b, .int .i64 x5.1.to], Sl Ty.bool v24 x20, Sl Ty.bool v3 s1.1, Sl T_provisoref19_ins v4 s1.2.1] := s106
            have s107 : SL w [] _ [Sl Ty.bool v24 x20, Sl Ty.bool v3 s1.1, Sl T_provisoref19_ins v4 s1.2.1] := s106.drop
            refine kq_end ⟨s107, ?_⟩
            refine hd_one (i := 20) rfl (by kernel_rfl) ?_
            refine st_op F104 (ex_asg rfl) rfl rfl rfl fun q105 F105 => ?_
            have s108 : SL w [] _ [Sl Ty.bool v24 x20, Sl Ty.bool v3 s1.1, Sl T_provisoref19_ins v4 s1.2.1] := s106.drop
            refine kq_end ⟨s108, ?_⟩
            refine hd_done (by kernel_rfl) ?_
            obtain rfl := some_ok H
            refine then_n ?_
            exact ⟨g7, F105.sub ⟨rfl, rfl, rfl, rfl, rfl, rfl, rfl, rfl, rfl, rfl, rfl, rfl, rfl, rfl, rfl, rfl, rfl, rfl, rfl, trivial⟩, s106.f3.f3.f3⟩
         ·intro q106 w24 hJ
          obtain ⟨g0, F106, s109⟩ := hJ
          have H := R3
          clear R3 H3
          refine then_n <| wp_seq <| wp_reg ?_
          refine st_pr F106 (PR.op (ex_move rfl) <| PR.nil) fun q107 F107 => ?_
          refine st_end <| then_n ?_
          refine wp_if F107 rfl (fun hb4 => ?_) (fun hb4 => ?_)
          ·replace H := ite_t hb4 H
           refine wp_seq <| wp_reg ?_
           obtain ⟨x6, hx6, H⟩ := bind_ok H
           obtain ⟨a8, hi5, he2⟩ := own_idx F_provisoref19_ins s109 (.tail _ <| .tail _ <| .head _) Fx.sl126 rfl hx6
           refine st_pr F107 (PR.op (ex_move rfl) <| PR.op (ex_move rfl) <| PR.op (ex_ldagg Fx.agg156 rfl (s109.blk_cells (.tail _ <| .tail _ <| .tail _ <| .head _) (o := 0) (ds := [.int .u8 (o4.1.toNat : Int), .int .i64 o4.2.1, .int .i64 o4.2.2.1, .int .i64 o4.2.2.2.1]) (fun j u hu => by rw [Nat.zero_add]; exact hu)) rfl) <| PR.op (hi5 _ _ _ _ _ _ _ _ _ _ rfl rfl) <| PR.nil) fun q108 F108 => ?_
           refine st_setel (y' := (⟨o4.1, o4.2.1, o4.2.2.1, o4.2.2.2.1⟩ : S_provisoref19_ins)) F_provisoref19_ins F108 s109.f2 he2 hx6 rfl rfl (by rfl) Fx.sz156 fun w26 q109 F109 s110 => ?_
           refine st_end <| then_n <| wp_seq <| wp_reg ?_
           obtain ⟨x7, hx7, H⟩ := bind_ok H
           obtain ⟨a9, hi6, he3⟩ := own_idx Flat.bool s110 (.tail _ <| .tail _ <| .head _) Fx.sl93 rfl hx7
           refine st_pr F109 (PR.op (ex_move rfl) <| PR.op (ex_move rfl) <| PR.op (ex_add rfl rfl) <| PR.op (ex_move rfl) <| PR.op (ex_move rfl) <| PR.op (ex_add rfl rfl) <| PR.op (hi6 _ _ _ _ _ _ _ _ _ _ rfl rfl) <| PR.nil) fun q110 F110 => ?_
           refine st_setel (y' := true) Flat.bool F110 s110.f2 he3 hx7 rfl rfl (by rfl) Fx.sz4 fun w27 q111 F111 s111 => ?_
           obtain ⟨x8, hx8, H⟩ := bind_ok H
           obtain ⟨a10, hi7, he4⟩ := own_idx Flat.bool s111 (.head _) Fx.sl93 rfl hx8
           refine st_pr F111 (PR.op (hi7 _ _ _ _ _ _ _ _ _ _ rfl rfl) <| PR.nil) fun q112 F112 => ?_
           refine st_setel (y' := true) Flat.bool F112 s111 he4 hx8 rfl rfl (by rfl) Fx.sz4 fun w28 q113 F113 s112 => ?_
           refine st_end <| then_n <| wp_seq <| wp_reg ?_
           refine st_pr F113 (PR.op (ex_move rfl) <| PR.op (ex_add rfl rfl) <| PR.op (ex_asg rfl) <| PR.nil) fun q114 F114 => ?_
           refine st_end <| then_n <| wp_exit <| then_x <| then_x <| blk_hit ?_
           obtain rfl := some_ok H
           replace H := R2
           dsimp only at H
           obtain rfl := some_ok H
           refine then_n ?_
           exact ⟨v3, v4, F114.sub ⟨rfl, rfl, rfl, rfl, rfl, trivial⟩, s112.f3.drop.f1.f1.f2⟩
          ·replace H := ite_f hb4 H
           refine wp_skip ?_
           obtain rfl := some_ok H
           refine then_n ?_
           exact ⟨_, rfl, F107.sub ⟨rfl, rfl, rfl, rfl, rfl, trivial⟩, s109.f3.drop⟩
        ·replace H := ite_f hb3 H
         refine wp_skip ?_
         obtain rfl := some_ok H
         refine then_n ?_
         exact ⟨_, rfl, F19.sub ⟨rfl, rfl, rfl, rfl, rfl, trivial⟩, s2⟩
       ·replace H := ite_f hb2 H
        refine st_gskip F12 rfl rfl (look_b rfl hb2) Bool.noConfusion rfl rfl fun q115 F115 => ?_
        refine st_gskip F115 rfl rfl (look_b rfl hb2) Bool.noConfusion rfl rfl fun q116 F116 => ?_
        refine st_gskip F116 rfl rfl (look_b rfl hb2) Bool.noConfusion rfl rfl fun q117 F117 => ?_
        refine st_gskip F117 rfl rfl (look_b rfl hb2) Bool.noConfusion rfl rfl fun q118 F118 => ?_
        refine st_gskip F118 rfl rfl (look_b rfl hb2) Bool.noConfusion rfl rfl fun q119 F119 => ?_
        refine st_gskip F119 rfl rfl (look_b rfl hb2) Bool.noConfusion rfl rfl fun q120 F120 => ?_
        refine st_pr F120 (PR.op (ex_pick_f (ev_b rfl hb2) rfl) <| PR.nil) fun q121 F121 => ?_
        refine st_end <| then_n ?_
        refine wp_if_f F121 rfl ?_
        refine wp_skip ?_
        obtain rfl := some_ok H
        refine then_n ?_
        exact ⟨_, rfl, F121.sub ⟨rfl, rfl, rfl, rfl, rfl, trivial⟩, s2⟩
      ·replace H := ite_f hb1 H
       refine st_gskip F5 rfl rfl (look_b rfl hb1) Bool.noConfusion rfl rfl fun q122 F122 => ?_
       refine st_gskip F122 rfl rfl (look_b rfl hb1) Bool.noConfusion rfl rfl fun q123 F123 => ?_
       refine st_gskip F123 rfl rfl (look_b rfl hb1) Bool.noConfusion rfl rfl fun q124 F124 => ?_
       refine st_gskip F124 rfl rfl (look_b rfl hb1) Bool.noConfusion rfl rfl fun q125 F125 => ?_
       refine st_gskip F125 rfl rfl (look_b rfl hb1) Bool.noConfusion rfl rfl fun q126 F126 => ?_
       refine st_gskip F126 rfl rfl (look_b rfl hb1) Bool.noConfusion rfl rfl fun q127 F127 => ?_
       refine st_pr F127 (PR.op (ex_pick_f (ev_b rfl hb1) rfl) <| PR.op (ex_move rfl) <| PR.nil) fun q128 F128 => ?_
       refine st_gskip F128 rfl rfl rfl Bool.noConfusion rfl rfl fun q129 F129 => ?_
       refine st_gskip F129 rfl rfl rfl Bool.noConfusion rfl rfl fun q130 F130 => ?_
       refine st_gskip F130 rfl rfl rfl Bool.noConfusion rfl rfl fun q131 F131 => ?_
       refine st_gskip F131 rfl rfl rfl Bool.noConfusion rfl rfl fun q132 F132 => ?_
       refine st_gskip F132 rfl rfl rfl Bool.noConfusion rfl rfl fun q133 F133 => ?_
       refine st_gskip F133 rfl rfl rfl Bool.noConfusion rfl rfl fun q134 F134 => ?_
       refine st_pr F134 (PR.op (ex_pick_f rfl rfl) <| PR.nil) fun q135 F135 => ?_
       refine st_end <| then_n ?_
       refine wp_if_f F135 rfl ?_
       refine wp_skip ?_
       obtain rfl := some_ok H
       refine then_n ?_
       exact ⟨_, rfl, F135.sub ⟨rfl, rfl, rfl, rfl, rfl, trivial⟩, s2⟩
     ·intro q136 w29 hJ
      obtain ⟨p0, rfl, F136, s113⟩ := hJ
      have H := R2
      clear R2 H2
      dsimp only at H
      refine then_n <| wp_seq <| wp_reg ?_
      refine st_pr F136 (PR.op (ex_move rfl) <| PR.op (ex_add rfl rfl) <| PR.op (ex_move rfl) <| PR.op (ex_len rfl Try.underlying126 (formL (rdL hr0 s113))) <| PR.op (ex_lt rfl rfl) <| PR.op (ex_move rfl) <| PR.nil) fun q137 F137 => ?_
      refine bool_split (decide ((wr (s1.2.2 + 1)) < (a0.length : Int))) (fun hb5 => ?_) (fun hb5 => ?_)
      ·replace H := ite_t hb5 H
       refine st_gop F137 rfl rfl (look_b rfl hb5) (ex_move rfl) rfl rfl fun q138 F138 => ?_
       refine st_gop F138 rfl rfl (look_b rfl hb5) (ex_move rfl) rfl rfl fun q139 F139 => ?_
       refine st_gop F139 rfl rfl (look_b rfl hb5) (ex_add rfl rfl) rfl rfl fun q140 F140 => ?_
       obtain ⟨x9, hx9, H⟩ := bind_ok H
       obtain ⟨a11, hi8, he5⟩ := own_idx Flat.bool s113 (.head _) Fx.sl93 rfl hx9
       refine st_gop F140 rfl rfl (look_b rfl hb5) (hi8 _ _ _ _ _ _ _ _ _ _ rfl rfl) rfl rfl fun q141 F141 => ?_
       refine st_gop F141 rfl rfl (look_b rfl hb5) (ex_ld Fx.nag4 rfl (Cells.at_ (SL.elcells Flat.bool s113 (.head _) he5 hx9) (o := 0) rfl)) rfl rfl fun q142 F142 => ?_
       refine st_gop F142 rfl rfl (look_b rfl hb5) (ex_not rfl) rfl rfl fun q143 F143 => ?_
       refine st_pr F143 (PR.op (ex_pick_t (ev_b rfl hb5) rfl) <| PR.nil) fun q144 F144 => ?_
       refine st_end <| then_n ?_
       refine wp_if F144 rfl (fun hb6 => ?_) (fun hb6 => ?_)
       ·replace H := ite_t hb6 H
        refine wp_seq ?_
        obtain ⟨o5, H4, R4⟩ := bind_ok H
        clear H
        refine wp_cutn (fun a w_ => ∃ g8 : Nat, Fr a 125 [(0, v0), (3, v24), (4, v3), (5, v4), (6, .int .i64 s1.2.2), (9, .pointer (some ⟨g8, 0, none⟩)), (10, .bool o5.2.2.2.2), (85, v24), (86, .int .i64 s1.2.2), (87, .int .i64 (wr (s1.2.2 + 1))), (88, .pointer (some a11)), (89, .bool x9), (90, .bool (!x9))] ∧ SL w [] w_ [Sl Ty.bool v24 x20, Sl Ty.bool v3 s1.1, Sl T_provisoref19_ins v4 s1.2.1, Blk g8 156 [.int .u8 (o5.1.toNat : Int), .int .i64 o5.2.1, .int .i64 o5.2.2.1, .int .i64 o5.2.2.2.1]]) ?_ ?_
        ·have H := H4
         obtain ⟨x10, hx10, H⟩ := bind_ok H
         obtain ⟨x11, hx11, H⟩ := bind_ok H
         obtain ⟨x12, hx12, H⟩ := bind_ok H
         refine wp_regh Fx.mixed (fun w_ => SL w [] w_ [Sl Ty.bool v24 x20, Sl Ty.bool v3 s1.1, Sl T_provisoref19_ins v4 s1.2.1]) ?_
         have s114 := s113.drew
         have s115 : SL w [] _ [Sl Ty.bool v24 x20, Sl Ty.bool v3 s1.1, Sl T_provisoref19_ins v4 s1.2.1] := s114
         refine hd_take (i := 0) rfl (by kernel_rfl) (by kernel_rfl) (by kernel_rfl) (fun _ hC => ex_move rfl) rfl rfl rfl F144 s115 fun q145 F145 => ?_
         refine hd_take (i := 1) rfl (by kernel_rfl) (by kernel_rfl) (by kernel_rfl) (fun _ hC => ex_move rfl) rfl rfl rfl F145 s115 fun q146 F146 => ?_
         obtain ⟨a12, hi9, hc3⟩ := idxC (C := fun w_ => SL w [] w_ [Sl Ty.bool v24 x20, Sl Ty.bool v3 s1.1, Sl T_provisoref19_ins v4 s1.2.1]) F_provisoref19_ins (fun _ hC => (rdL hr0 hC)) s115 Fx.sl126 rfl hx10
         refine hd_take (i := 2) rfl (by kernel_rfl) (by kernel_rfl) (by kernel_rfl) (fun _ hC => hi9 _ _ _ _ _ _ _ _ _ _ rfl rfl) rfl rfl rfl F146 s115 fun q147 F147 => ?_
         refine hd_take (i := 3) rfl (by kernel_rfl) (by kernel_rfl) (by kernel_rfl) (fun _ hC => ex_ldagg Fx.agg156 rfl (hc3 _ hC) rfl) rfl rfl rfl F147 s115 fun q148 F148 => ?_
         refine hd_take (i := 4) rfl (by kernel_rfl) (by kernel_rfl) (by kernel_rfl) (fun _ hC => ex_move rfl) rfl rfl rfl F148 s115 fun q149 F149 => ?_
         refine hd_take (i := 5) rfl (by kernel_rfl) (by kernel_rfl) (by kernel_rfl) (fun _ hC => ex_move rfl) rfl rfl rfl F149 s115 fun q150 F150 => ?_
         refine hd_take (i := 6) rfl (by kernel_rfl) (by kernel_rfl) (by kernel_rfl) (fun _ hC => ex_add rfl rfl) rfl rfl rfl F150 s115 fun q151 F151 => ?_
         obtain ⟨a13, hi10, hc4⟩ := idxC (C := fun w_ => SL w [] w_ [Sl Ty.bool v24 x20, Sl Ty.bool v3 s1.1, Sl T_provisoref19_ins v4 s1.2.1]) F_provisoref19_ins (fun _ hC => (rdL hr0 hC)) s115 Fx.sl126 rfl hx11
         refine hd_take (i := 7) rfl (by kernel_rfl) (by kernel_rfl) (by kernel_rfl) (fun _ hC => hi10 _ _ _ _ _ _ _ _ _ _ rfl rfl) rfl rfl rfl F151 s115 fun q152 F152 => ?_
         refine hd_take (i := 8) rfl (by kernel_rfl) (by kernel_rfl) (by kernel_rfl) (fun _ hC => ex_ldagg Fx.agg156 rfl (hc4 _ hC) rfl) rfl rfl rfl F152 s115 fun q153 F153 => ?_
         refine hd_many (rs := [9, 13]) (by kernel_rfl) (by decide) (hd_cons (wpOp_of rfl ?_) (hd_cons (wpOp_of rfl ?_) (hd_nil)))
         ·refine st_call (args := [.tmp 96, .tmp 101]) F153 Fx.fn105 rfl (provisoref19_two_c (a0 := x10) (a1 := x11)   hx12) rfl fun v9 w30 q154 hS2 F154 => ?_
          obtain ⟨rfl, hq2⟩ := hS2
          have s116 := s114.add hq2
          have s117 : SL w [] _ [Sl Ty.bool v24 x20, Sl Ty.bool v3 s1.1, Sl T_provisoref19_ins v4 s1.2.1] := s116
          refine kq_end ⟨s117, ?_⟩
          refine hd_many (rs := [10, 13]) (by kernel_rfl) (by decide) (hd_cons (wpOp_of rfl ?_) (hd_cons (wpOp_of rfl ?_) (hd_nil)))
          ·refine st_op F154 (ex_move rfl) rfl rfl rfl fun q155 F155 => ?_
           have s118 : SL w [] _ [Sl Ty.bool v24 x20, Sl Ty.bool v3 s1.1, Sl T_provisoref19_ins v4 s1.2.1] := s116
           refine kq_end ⟨s118, ?_⟩
           refine hd_many (rs := [11, 12, 13]) (by kernel_rfl) (by decide) (hd_cons (wpOp_of rfl ?_) (hd_cons (wpOp_of rfl ?_) (hd_cons (wpOp_of rfl ?_) (hd_nil))))
           ·refine st_op F155 (ex_extract (v := .agg ⟨[.int .u8 (x12.1.op.toNat : Int), .int .i64 x12.1.a, .int .i64 x12.1.b, .int .i64 x12.1.to]⟩) rfl rfl) rfl rfl rfl fun q156 F156 => ?_
            have s119 : SL w [] _ [Sl Ty.bool v24 x20, Sl Ty.bool v3 s1.1, Sl T_provisoref19_ins v4 s1.2.1] := s116
            refine kq_end ⟨s119, ?_⟩
            refine hd_many (rs := [12, 13]) (by kernel_rfl) (by decide) (hd_cons (wpOp_of rfl ?_) (hd_cons (wpOp_of rfl ?_) (hd_nil)))
            ·refine st_op F156 (ex_extract (v := .bool x12.2) rfl rfl) rfl rfl rfl fun q157 F157 => ?_
             have s120 : SL w [] _ [Sl Ty.bool v24 x20, Sl Ty.bool v3 s1.1, Sl T_provisoref19_ins v4 s1.2.1] := s116
             refine kq_end ⟨s120, ?_⟩
             refine hd_one (i := 13) rfl (by kernel_rfl) ?_
             refine st_alloc F157 s116 Fx.zero156 rfl rfl fun g9 w31 q158 F158 s121 => ?_
             have s122 : SL w [] _ [Sl Ty.bool v24 x20, Sl Ty.bool v3 s1.1, Sl T_provisoref19_ins v4 s1.2.1] := s121.drop
             refine kq_end ⟨s122, ?_⟩
             refine hd_one (i := 14) rfl (by kernel_rfl) ?_
             have s123 := s121
             refine st_storea F158 s123 rfl rfl Fx.sz156 (one_cons rfl (one_cons rfl (one_cons rfl (one_cons rfl one_nil)))) (Nat.le_of_ble_eq_true rfl) fun w32 q159 F159 s124 => ?_
             replace s124 : SL w [] w32 [Blk g9 156 [.int .u8 (x12.1.op.toNat : Int), .int .i64 x12.1.a, .int .i64 x12.1.b, .int .i64 x12.1.to], Sl Ty.bool v24 x20, Sl Ty.bool v3 s1.1, Sl T_provisoref19_ins v4 s1.2.1] := s124
             have s125 : SL w [] _ [Sl Ty.bool v24 x20, Sl Ty.bool v3 s1.1, Sl T_provisoref19_ins v4 s1.2.1] := s124.drop
             refine kq_end ⟨s125, ?_⟩
             refine hd_one (i := 15) rfl (by kernel_rfl) ?_
             refine st_op F159 (ex_asg rfl) rfl rfl rfl fun q160 F160 => ?_
             have s126 : SL w [] _ [Sl Ty.bool v24 x20, Sl Ty.bool v3 s1.1, Sl T_provisoref19_ins v4 s1.2.1] := s124.drop
             refine kq_end ⟨s126, ?_⟩
             refine hd_done (by kernel_rfl) ?_
             obtain rfl := some_ok H
             refine then_n ?_
             exact ⟨g9, F160.sub ⟨rfl, rfl, rfl, rfl, rfl, rfl, rfl, rfl, rfl, rfl, rfl, rfl, rfl, trivial⟩, s124.f3.f3.f3⟩
            ·refine st_alloc F156 s116 Fx.zero156 rfl rfl fun g10 w33 q161 F161 s127 => ?_
             have s128 : SL w [] _ [Sl Ty.bool v24 x20, Sl Ty.bool v3 s1.1, Sl T_provisoref19_ins v4 s1.2.1] := s127.drop
             refine kq_end ⟨s128, ?_⟩
             refine hd_many (rs := [12, 14]) (by kernel_rfl) (by decide) (hd_cons (wpOp_of rfl ?_) (hd_cons (wpOp_of rfl ?_) (hd_nil)))
             ·refine st_op F161 (ex_extract (v := .bool x12.2) rfl rfl) rfl rfl rfl fun q162 F162 => ?_
              have s129 : SL w [] _ [Sl Ty.bool v24 x20, Sl Ty.bool v3 s1.1, Sl T_provisoref19_ins v4 s1.2.1] := s127.drop
              refine kq_end ⟨s129, ?_⟩
              refine hd_one (i := 14) rfl (by kernel_rfl) ?_
              have s130 := s127
              refine st_storea F162 s130 rfl rfl Fx.sz156 (one_cons rfl (one_cons rfl (one_cons rfl (one_cons rfl one_nil)))) (Nat.le_of_ble_eq_true rfl) fun w34 q163 F163 s131 => ?_
              replace s131 : SL w [] w34 [Blk g10 156 [.int .u8 (x12.1.op.toNat : Int), .int .i64 x12.1.a, .int .i64 x12.1.b, .int .i64 x12.1.to], Sl Ty.bool v24 x20, Sl Ty.bool v3 s1.1, Sl T_provisoref19_ins v4 s1.2.1] := s131
              have s132 : SL w [] _ [Sl Ty.bool v24 x20, Sl Ty.bool v3 s1.1, Sl T_provisoref19_ins v4 s1.2.1] := s131.drop
              refine kq_end ⟨s132, ?_⟩
              refine hd_one (i := 15) rfl (by kernel_rfl) ?_
              refine st_op F163 (ex_asg rfl) rfl rfl rfl fun q164 F164 => ?_
              have s133 : SL w [] _ [Sl Ty.bool v24 x20, Sl Ty.bool v3 s1.1, Sl T_provisoref19_ins v4 s1.2.1] := s131.drop
              refine kq_end ⟨s133, ?_⟩
              refine hd_done (by kernel_rfl) ?_
              obtain rfl := some_ok H
              refine then_n ?_
              exact ⟨g10, F164.sub ⟨rfl, rfl, rfl, rfl, rfl, rfl, rfl, rfl, rfl, rfl, rfl, rfl, rfl, trivial⟩, s131.f3.f3.f3⟩
             ·have s134 := s127
              refine st_storea F161 s134 rfl rfl Fx.sz156 (one_cons rfl (one_cons rfl (one_cons rfl (one_cons rfl one_nil)))) (Nat.le_of_ble_eq_true rfl) fun w35 q165 F165 s135 => ?_
              replace s135 : SL w [] w35 [Blk g10 156 [.int .u8 (x12.1.op.toNat : Int), .int .i64 x12.1.a, .int .i64 x12.1.b, .int .i64 x12.1.to], Sl Ty.bool v24 x20, Sl Ty.bool v3 s1.1, Sl T_provisoref19_ins v4 s1.2.1] := s135
              have s136 : SL w [] _ [Sl Ty.bool v24 x20, Sl Ty.bool v3 s1.1, Sl T_provisoref19_ins v4 s1.2.1] := s135.drop
              refine kq_end ⟨s136, ?_⟩
              refine hd_one (i := 12) rfl (by kernel_rfl) ?_
              refine st_op F165 (ex_extract (v := .bool x12.2) rfl rfl) rfl rfl rfl fun q166 F166 => ?_
              have s137 : SL w [] _ [Sl Ty.bool v24 x20, Sl Ty.bool v3 s1.1, Sl T_provisoref19_ins v4 s1.2.1] := s135.drop
              refine kq_end ⟨s137, ?_⟩
              refine hd_one (i := 15) rfl (by kernel_rfl) ?_
              refine st_op F166 (ex_asg rfl) rfl rfl rfl fun q167 F167 => ?_
              have s138 : SL w [] _ [Sl Ty.bool v24 x20, Sl Ty.bool v3 s1.1, Sl T_provisoref19_ins v4 s1.2.1] := s135.drop
              refine kq_end ⟨s138, ?_⟩
              refine hd_done (by kernel_rfl) ?_
              obtain rfl := some_ok H
              refine then_n ?_
              exact ⟨g10, F167.sub ⟨rfl, rfl, rfl, rfl, rfl, rfl, rfl, rfl, rfl, rfl, rfl, rfl, rfl, trivial⟩, s135.f3.f3.f3⟩
           ·refine st_op F155 (ex_extract (v := .bool x12.2) rfl rfl) rfl rfl rfl fun q168 F168 => ?_
            have s139 : SL w [] _ [Sl Ty.bool v24 x20, Sl Ty.bool v3 s1.1, Sl T_provisoref19_ins v4 s1.2.1] := s116
            refine kq_end ⟨s139, ?_⟩
            refine hd_many (rs := [11, 13]) (by kernel_rfl) (by decide) (hd_cons (wpOp_of rfl ?_) (hd_cons (wpOp_of rfl ?_) (hd_nil)))
            ·refine st_op F168 (ex_extract (v := .agg ⟨[.int .u8 (x12.1.op.toNat : Int), .int .i64 x12.1.a, .int .i64 x12.1.b, .int .i64 x12.1.to]⟩) rfl rfl) rfl rfl rfl fun q169 F169 => ?_
             have s140 : SL w [] _ [Sl Ty.bool v24 x20, Sl Ty.bool v3 s1.1, Sl T_provisoref19_ins v4 s1.2.1] := s116
             refine kq_end ⟨s140, ?_⟩
             refine hd_one (i := 13) rfl (by kernel_rfl) ?_
             refine st_alloc F169 s116 Fx.zero156 rfl rfl fun g11 w36 q170 F170 s141 => ?_
             have s142 : SL w [] _ [Sl Ty.bool v24 x20, Sl Ty.bool v3 s1.1, Sl T_provisoref19_ins v4 s1.2.1] := s141.drop
             refine kq_end ⟨s142, ?_⟩
             refine hd_one (i := 14) rfl (by kernel_rfl) ?_
             have s143 := s141
             refine st_storea F170 s143 rfl rfl Fx.sz156 (one_cons rfl (one_cons rfl (one_cons rfl (one_cons rfl one_nil)))) (Nat.le_of_ble_eq_true rfl) fun w37 q171 F171 s144 => ?_
             replace s144 : SL w [] w37 [Blk g11 156 [.int .u8 (x12.1.op.toNat : Int), .int .i64 x12.1.a, .int .i64 x12.1.b, .int .i64 x12.1.to], Sl Ty.bool v24 x20, Sl Ty.bool v3 s1.1, Sl T_provisoref19_ins v4 s1.2.1] := s144
             have s145 : SL w [] _ [Sl Ty.bool v24 x20, Sl Ty.bool v3 s1.1, Sl T_provisoref19_ins v4 s1.2.1] := s144.drop
             refine kq_end ⟨s145, ?_⟩
             refine hd_one (i := 15) rfl (by kernel_rfl) ?_
             refine st_op F171 (ex_asg rfl) rfl rfl rfl fun q172 F172 => ?_
             have s146 : SL w [] _ [Sl Ty.bool v24 x20, Sl Ty.bool v3 s1.1, Sl T_provisoref19_ins v4 s1.2.1] := s144.drop
             refine kq_end ⟨s146, ?_⟩
             refine hd_done (by kernel_rfl) ?_
             obtain rfl := some_ok H
             refine then_n ?_
             exact ⟨g11, F172.sub ⟨rfl, rfl, rfl, rfl, rfl, rfl, rfl, rfl, rfl, rfl, rfl, rfl, rfl, trivial⟩, s144.f3.f3.f3⟩
            ·refine st_alloc F168 s116 Fx.zero156 rfl rfl fun g12 w38 q173 F173 s147 => ?_
             have s148 : SL w [] _ [Sl Ty.bool v24 x20, Sl Ty.bool v3 s1.1, Sl T_provisoref19_ins v4 s1.2.1] := s147.drop
             refine kq_end ⟨s148, ?_⟩
             refine hd_one (i := 11) rfl (by kernel_rfl) ?_
             refine st_op F173 (ex_extract (v := .agg ⟨[.int .u8 (x12.1.op.toNat : Int), .int .i64 x12.1.a, .int .i64 x12.1.b, .int .i64 x12.1.to]⟩) rfl rfl) rfl rfl rfl fun q174 F174 => ?_
             have s149 : SL w [] _ [Sl Ty.bool v24 x20, Sl Ty.bool v3 s1.1, Sl T_provisoref19_ins v4 s1.2.1] := s147.drop
             refine kq_end ⟨s149, ?_⟩
             refine hd_one (i := 14) rfl (by kernel_rfl) ?_
             have s150 := s147
             refine st_storea F174 s150 rfl rfl Fx.sz156 (one_cons rfl (one_cons rfl (one_cons rfl (one_cons rfl one_nil)))) (Nat.le_of_ble_eq_true rfl) fun w39 q175 F175 s151 => ?_
             replace s151 : SL w [] w39 [Blk g12 156 [.int .u8 (x12.1.op.toNat : Int), .int .i64 x12.1.a, .int .i64 x12.1.b, .int .i64 x12.1.to], Sl Ty.bool v24 x20, Sl Ty.bool v3 s1.1, Sl T_provisoref19_ins v4 s1.2.1] := s151
             have s152 : SL w [] _ [Sl Ty.bool v24 x20, Sl Ty.bool v3 s1.1, Sl T_provisoref19_ins v4 s1.2.1] := s151.drop
             refine kq_end ⟨s152, ?_⟩
             refine hd_one (i := 15) rfl (by kernel_rfl) ?_
             refine st_op F175 (ex_asg rfl) rfl rfl rfl fun q176 F176 => ?_
             have s153 : SL w [] _ [Sl Ty.bool v24 x20, Sl Ty.bool v3 s1.1, Sl T_provisoref19_ins v4 s1.2.1] := s151.drop
             refine kq_end ⟨s153, ?_⟩
             refine hd_done (by kernel_rfl) ?_
             obtain rfl := some_ok H
             refine then_n ?_
             exact ⟨g12, F176.sub ⟨rfl, rfl, rfl, rfl, rfl, rfl, rfl, rfl, rfl, rfl, rfl, rfl, rfl, trivial⟩, s151.f3.f3.f3⟩
           ·refine st_alloc F155 s116 Fx.zero156 rfl rfl fun g13 w40 q177 F177 s154 => ?_
            have s155 : SL w [] _ [Sl Ty.bool v24 x20, Sl Ty.bool v3 s1.1, Sl T_provisoref19_ins v4 s1.2.1] := s154.drop
            refine kq_end ⟨s155, ?_⟩
            refine hd_many (rs := [11, 12]) (by kernel_rfl) (by decide) (hd_cons (wpOp_of rfl ?_) (hd_cons (wpOp_of rfl ?_) (hd_nil)))
            ·refine st_op F177 (ex_extract (v := .agg ⟨[.int .u8 (x12.1.op.toNat : Int), .int .i64 x12.1.a, .int .i64 x12.1.b, .int .i64 x12.1.to]⟩) rfl rfl) rfl rfl rfl fun q178 F178 => ?_
             have s156 : SL w [] _ [Sl Ty.bool v24 x20, Sl Ty.bool v3 s1.1, Sl T_provisoref19_ins v4 s1.2.1] := s154.drop
             refine kq_end ⟨s156, ?_⟩
             refine hd_many (rs := [12, 14]) (by kernel_rfl) (by decide) (hd_cons (wpOp_of rfl ?_) (hd_cons (wpOp_of rfl ?_) (hd_nil)))
             ·refine st_op F178 (ex_extract (v := .bool x12.2) rfl rfl) rfl rfl rfl fun q179 F179 => ?_
              have s157 : SL w [] _ [Sl Ty.bool v24 x20, Sl Ty.bool v3 s1.1, Sl T_provisoref19_ins v4 s1.2.1] := s154.drop
              refine kq_end ⟨s157, ?_⟩
              refine hd_one (i := 14) rfl (by kernel_rfl) ?_
              have s158 := s154
              refine st_storea F179 s158 rfl rfl Fx.sz156 (one_cons rfl (one_cons rfl (one_cons rfl (one_cons rfl one_nil)))) (Nat.le_of_ble_eq_true rfl) fun w41 q180 F180 s159 => ?_
              replace s159 : SL w [] w41 [Blk g13 156 [.int .u8 (x12.1.op.toNat : Int), .int .i64 x12.1.a, .int .i64 x12.1.b, .int .i64 x12.1.to], Sl Ty.bool v24 x20, Sl Ty.bool v3 s1.1, Sl T_provisoref19_ins v4 s1.2.1] := s159
              have s160 : SL w [] _ [Sl Ty.bool v24 x20, Sl Ty.bool v3 s1.1, Sl T_provisoref19_ins v4 s1.2.1] := s159.drop
              refine kq_end ⟨s160, ?_⟩
              refine hd_one (i := 15) rfl (by kernel_rfl) ?_
              refine st_op F180 (ex_asg rfl) rfl rfl rfl fun q181 F181 => ?_
              have s161 : SL w [] _ [Sl Ty.bool v24 x20, Sl Ty.bool v3 s1.1, Sl T_provisoref19_ins v4 s1.2.1] := s159.drop
              refine kq_end ⟨s161, ?_⟩
              refine hd_done (by kernel_rfl) ?_
              obtain rfl := some_ok H
              refine then_n ?_
              exact ⟨g13, F181.sub ⟨rfl, rfl, rfl, rfl, rfl, rfl, rfl, rfl, rfl, rfl, rfl, rfl, rfl, trivial⟩, s159.f3.f3.f3⟩
             ·have s162 := s154
              refine st_storea F178 s162 rfl rfl Fx.sz156 (one_cons rfl (one_cons rfl (one_cons rfl (one_cons rfl one_nil)))) (Nat.le_of_ble_eq_true rfl) fun w42 q182 F182 s163 => ?_
              replace s163 : SL w [] w42 [Blk g13 156 [.int .u8 (x12.1.op.toNat : Int), .int .i64 x12.1.a, .int .i64 x12.1.b, .int .i64 x12.1.to], Sl Ty.bool v24 x20, Sl Ty.bool v3 s1.1, Sl T_provisoref19_ins v4 s1.2.1] := s163
              have s164 : SL w [] _ [Sl Ty.bool v24 x20, Sl Ty.bool v3 s1.1, Sl T_provisoref19_ins v4 s1.2.1] := s163.drop
              refine kq_end ⟨s164, ?_⟩
              refine hd_one (i := 12) rfl (by kernel_rfl) ?_
              refine st_op F182 (ex_extract (v := .bool x12.2) rfl rfl) rfl rfl rfl fun q183 F183 => ?_
              have s165 : SL w [] _ [Sl Ty.bool v24 x20, Sl Ty.bool v3 s1.1, Sl T_provisoref19_ins v4 s1.2.1] := s163.drop
              refine kq_end ⟨s165, ?_⟩
              refine hd_one (i := 15) rfl (by kernel_rfl) ?_
              refine st_op F183 (ex_asg rfl) rfl rfl rfl fun q184 F184 => ?_
              have s166 : SL w [] _ [Sl Ty.bool v24 x20, Sl Ty.bool v3 s1.1, Sl T_provisoref19_ins v4 s1.2.1] := s163.drop
              refine kq_end ⟨s166, ?_⟩
              refine hd_done (by kernel_rfl) ?_
              obtain rfl := some_ok H
              refine then_n ?_
              exact ⟨g13, F184.sub ⟨rfl, rfl, rfl, rfl, rfl, rfl, rfl, rfl, rfl, rfl, rfl, rfl, rfl, trivial⟩, s163.f3.f3.f3⟩
            ·refine st_op F177 (ex_extract (v := .bool x12.2) rfl rfl) rfl rfl rfl fun q185 F185 => ?_
             have s167 : SL w [] _ [Sl Ty.bool v24 x20, Sl Ty.bool v3 s1.1, Sl T_provisoref19_ins v4 s1.2.1] := s154.drop
             refine kq_end ⟨s167, ?_⟩
             refine hd_one (i := 11) rfl (by kernel_rfl) ?_
             refine st_op F185 (ex_extract (v := .agg ⟨[.int .u8 (x12.1.op.toNat : Int), .int .i64 x12.1.a, .int .i64 x12.1.b, .int .i64 x12.1.to]⟩) rfl rfl) rfl rfl rfl fun q186 F186 => ?_
             have s168 : SL w [] _ [Sl Ty.bool v24 x20, Sl Ty.bool v3 s1.1, Sl T_provisoref19_ins v4 s1.2.1] := s154.drop
             refine kq_end ⟨s168, ?_⟩
             refine hd_one (i := 14) rfl (by kernel_rfl) ?_
             have s169 := s154
             refine st_storea F186 s169 rfl rfl Fx.sz156 (one_cons rfl (one_cons rfl (one_cons rfl (one_cons rfl one_nil)))) (Nat.le_of_ble_eq_true rfl) fun w43 q187 F187 s170 => ?_
             replace s170 : SL w [] w43 [Blk g13 156 [.int .u8 (x12.1.op.toNat : Int), .int .i64 x12.1.a, .int .i64 x12.1.b, .int .i64 x12.1.to], Sl Ty.bool v24 x20, Sl Ty.bool v3 s1.1, Sl T_provisoref19_ins v4 s1.2.1] := s170
             have s171 : SL w [] _ [Sl Ty.bool v24 x20, Sl Ty.bool v3 s1.1, Sl T_provisoref19_ins v4 s1.2.1] := s170.drop
             refine kq_end ⟨s171, ?_⟩
             refine hd_one (i := 15) rfl (by kernel_rfl) ?_
             refine st_op F187 (ex_asg rfl) rfl rfl rfl fun q188 F188 => ?_
             have s172 : SL w [] _ [Sl Ty.bool v24 x20, Sl Ty.bool v3 s1.1, Sl T_provisoref19_ins v4 s1.2.1] := s170.drop
             refine kq_end ⟨s172, ?_⟩
             refine hd_done (by kernel_rfl) ?_
             obtain rfl := some_ok H
             refine then_n ?_
             exact ⟨g13, F188.sub ⟨rfl, rfl, rfl, rfl, rfl, rfl, rfl, rfl, rfl, rfl, rfl, rfl, rfl, trivial⟩, s170.f3.f3.f3⟩
          ·refine st_alloc F154 s116 Fx.zero156 rfl rfl fun g14 w44 q189 F189 s173 => ?_
           have s174 : SL w [] _ [Sl Ty.bool v24 x20, Sl Ty.bool v3 s1.1, Sl T_provisoref19_ins v4 s1.2.1] := s173.drop
           refine kq_end ⟨s174, ?_⟩
           refine hd_one (i := 10) rfl (by kernel_rfl) ?_
           refine st_op F189 (ex_move rfl) rfl rfl rfl fun q190 F190 => ?_
           have s175 : SL w [] _ [Sl Ty.bool v24 x20, Sl Ty.bool v3 s1.1, Sl T_provisoref19_ins v4 s1.2.1] := s173.drop
           refine kq_end ⟨s175, ?_⟩
           refine hd_many (rs := [11, 12]) (by kernel_rfl) (by decide) (hd_cons (wpOp_of rfl ?_) (hd_cons (wpOp_of rfl ?_) (hd_nil)))
           ·refine st_op F190 (ex_extract (v := .agg ⟨[.int .u8 (x12.1.op.toNat : Int), .int .i64 x12.1.a, .int .i64 x12.1.b, .int .i64 x12.1.to]⟩) rfl rfl) rfl rfl rfl fun q191 F191 => ?_
            have s176 : SL w [] _ [Sl Ty.bool v24 x20, Sl Ty.bool v3 s1.1, Sl T_provisoref19_ins v4 s1.2.1] := s173.drop
            refine kq_end ⟨s176, ?_⟩
            refine hd_many (rs := [12, 14]) (by kernel_rfl) (by decide) (hd_cons (wpOp_of rfl ?_) (hd_cons (wpOp_of rfl ?_) (hd_nil)))
            ·refine st_op F191 (ex_extract (v := .bool x12.2) rfl rfl) rfl rfl rfl fun q192 F192 => ?_
             have s177 : SL w [] _ [Sl Ty.bool v24 x20, Sl Ty.bool v3 s1.1, Sl T_provisoref19_ins v4 s1.2.1] := s173.drop
             refine kq_end ⟨s177, ?_⟩
             refine hd_one (i := 14) rfl (by kernel_rfl) ?_
             have s178 := s173
             refine st_storea F192 s178 rfl rfl Fx.sz156 (one_cons rfl (one_cons rfl (one_cons rfl (one_cons rfl one_nil)))) (Nat.le_of_ble_eq_true rfl) fun w45 q193 F193 s179 => ?_
             replace s179 : SL w [] w45 [Blk g14 156 [.int .u8 (x12.1.op.toNat : Int), .int .i64 x12.1.a, .int .i64 x12.1.b, .int .i64 x12.1.to], Sl Ty.bool v24 x20, Sl Ty.bool v3 s1.1, Sl T_provisoref19_ins v4 s1.2.1] := s179
             have s180 : SL w [] _ [Sl Ty.bool v24 x20, Sl Ty.bool v3 s1.1, Sl T_provisoref19_ins v4 s1.2.1] := s179.drop
             refine kq_end ⟨s180, ?_⟩
             refine hd_one (i := 15) rfl (by kernel_rfl) ?_
             refine st_op F193 (ex_asg rfl) rfl rfl rfl fun q194 F194 => ?_
             have s181 : SL w [] _ [Sl Ty.bool v24 x20, Sl Ty.bool v3 s1.1, Sl T_provisoref19_ins v4 s1.2.1] := s179.drop
             refine kq_end ⟨s181, ?_⟩
             refine hd_done (by kernel_rfl) ?_
             obtain rfl := some_ok H
             refine then_n ?_
             exact ⟨g14, F194.sub ⟨rfl, rfl, rfl, rfl, rfl, rfl, rfl, rfl, rfl, rfl, rfl, rfl, rfl, trivial⟩, s179.f3.f3.f3⟩
            ·have s182 := s173
             refine st_storea F191 s182 rfl rfl Fx.sz156 (one_cons rfl (one_cons rfl (one_cons rfl (one_cons rfl one_nil)))) (Nat.le_of_ble_eq_true rfl) fun w46 q195 F195 s183 => ?_
             replace s183 : SL w [] w46 [Blk g14 156 [.int .u8 (x12.1.op.toNat : Int), .int .i64 x12.1.a, .int .i64 x12.1.b, .int .i64 x12.1.to], Sl Ty.bool v24 x20, Sl Ty.bool v3 s1.1, Sl T_provisoref19_ins v4 s1.2.1] := s183
             have s184 : SL w [] _ [Sl Ty.bool v24 x20, Sl Ty.bool v3 s1.1, Sl T_provisoref19_ins v4 s1.2.1] := s183.drop
             refine kq_end ⟨s184, ?_⟩
             refine hd_one (i := 12) rfl (by kernel_rfl) ?_
             refine st_op F195 (ex_extract (v := .bool x12.2) rfl rfl) rfl rfl rfl fun q196 F196 => ?_
             have s185 : SL w [] _ [Sl Ty.bool v24 x20, Sl Ty.bool v3 s1.1, Sl T_provisoref19_ins v4 s1.2.1] := s183.drop
             refine kq_end ⟨s185, ?_⟩
             refine hd_one (i := 15) rfl (by kernel_rfl) ?_
             refine st_op F196 (ex_asg rfl) rfl rfl rfl fun q197 F197 => ?_
             have s186 : SL w [] _ [Sl Ty.bool v24 x20, Sl Ty.bool v3 s1.1, Sl T_provisoref19_ins v4 s1.2.1] := s183.drop
             refine kq_end ⟨s186, ?_⟩
             refine hd_done (by kernel_rfl) ?_
             obtain rfl := some_ok H
             refine then_n ?_
             exact ⟨g14, F197.sub ⟨rfl, rfl, rfl, rfl, rfl, rfl, rfl, rfl, rfl, rfl, rfl, rfl, rfl, trivial⟩, s183.f3.f3.f3⟩
           ·refine st_op F190 (ex_extract (v := .bool x12.2) rfl rfl) rfl rfl rfl fun q198 F198 => ?_
            have s187 : SL w [] _ [Sl Ty.bool v24 x20, Sl Ty.bool v3 s1.1, Sl T_provisoref19_ins v4 s1.2.1] := s173.drop
            refine kq_end ⟨s187, ?_⟩
            refine hd_one (i := 11) rfl (by kernel_rfl) ?_
            refine st_op F198 (ex_extract (v := .agg ⟨[.int .u8 (x12.1.op.toNat : Int), .int .i64 x12.1.a, .int .i64 x12.1.b, .int .i64 x12.1.to]⟩) rfl rfl) rfl rfl rfl fun q199 F199 => ?_
            have s188 : SL w [] _ [Sl Ty.bool v24 x20, Sl Ty.bool v3 s1.1, Sl T_provisoref19_ins v4 s1.2.1] := s173.drop
            refine kq_end ⟨s188, ?_⟩
            refine hd_one (i := 14) rfl (by kernel_rfl) ?_
            have s189 := s173
            refine st_storea F199 s189 rfl rfl Fx.sz156 (one_cons rfl (one_cons rfl (one_cons rfl (one_cons rfl one_nil)))) (Nat.le_of_ble_eq_true rfl) fun w47 q200 F200 s190 => ?_
            replace s190 : SL w [] w47 [Blk g14 156 [.int .u8 (x12.1.op.toNat : Int), .int .i64 x12.1.a, .int .i64 x12.1.b, .int .i64 x12.1.to], Sl Ty.bool v24 x20, Sl Ty.bool v3 s1.1, Sl T_provisoref19_ins v4 s1.2.1] := s190
            have s191 : SL w [] _ [Sl Ty.bool v24 x20, Sl Ty.bool v3 s1.1, Sl T_provisoref19_ins v4 s1.2.1] := s190.drop
            refine kq_end ⟨s191, ?_⟩
            refine hd_one (i := 15) rfl (by kernel_rfl) ?_
            refine st_op F200 (ex_asg rfl) rfl rfl rfl fun q201 F201 => ?_
            have s192 : SL w [] _ [Sl Ty.bool v24 x20, Sl Ty.bool v3 s1.1, Sl T_provisoref19_ins v4 s1.2.1] := s190.drop
            refine kq_end ⟨s192, ?_⟩
            refine hd_done (by kernel_rfl) ?_
            obtain rfl := some_ok H
            refine then_n ?_
            exact ⟨g14, F201.sub ⟨rfl, rfl, rfl, rfl, rfl, rfl, rfl, rfl, rfl, rfl, rfl, rfl, rfl, trivial⟩, s190.f3.f3.f3⟩
         ·refine st_alloc F153 s114 Fx.zero156 rfl rfl fun g15 w48 q202 F202 s193 => ?_
          have s194 : SL w [] _ [Sl Ty.bool v24 x20, Sl Ty.bool v3 s1.1, Sl T_provisoref19_ins v4 s1.2.1] := s193.drop
          refine kq_end ⟨s194, ?_⟩
          refine hd_one (i := 9) rfl (by kernel_rfl) ?_
          refine st_call (args := [.tmp 96, .tmp 101]) F202 Fx.fn105 rfl (provisoref19_two_c (a0 := x10) (a1 := x11)   hx12) rfl fun v10 w49 q203 hS3 F203 => ?_
          obtain ⟨rfl, hq3⟩ := hS3
          have s195 := s193.add hq3
          have s196 : SL w [] _ [Sl Ty.bool v24 x20, Sl Ty.bool v3 s1.1, Sl T_provisoref19_ins v4 s1.2.1] := s195.drop
          refine kq_end ⟨s196, ?_⟩
          refine hd_one (i := 10) rfl (by kernel_rfl) ?_
          refine st_op F203 (ex_move rfl) rfl rfl rfl fun q204 F204 => ?_
          have s197 : SL w [] _ [Sl Ty.bool v24 x20, Sl Ty.bool v3 s1.1, Sl T_provisoref19_ins v4 s1.2.1] := s195.drop
          refine kq_end ⟨s197, ?_⟩
          refine hd_many (rs := [11, 12]) (by kernel_rfl) (by decide) (hd_cons (wpOp_of rfl ?_) (hd_cons (wpOp_of rfl ?_) (hd_nil)))
          ·refine st_op F204 (ex_extract (v := .agg ⟨[.int .u8 (x12.1.op.toNat : Int), .int .i64 x12.1.a, .int .i64 x12.1.b, .int .i64 x12.1.to]⟩) rfl rfl) rfl rfl rfl fun q205 F205 => ?_
           have s198 : SL w [] _ [Sl Ty.bool v24 x20, Sl Ty.bool v3 s1.1, Sl T_provisoref19_ins v4 s1.2.1] := s195.drop
           refine kq_end ⟨s198, ?_⟩
           refine hd_many (rs := [12, 14]) (by kernel_rfl) (by decide) (hd_cons (wpOp_of rfl ?_) (hd_cons (wpOp_of rfl ?_) (hd_nil)))
           ·refine st_op F205 (ex_extract (v := .bool x12.2) rfl rfl) rfl rfl rfl fun q206 F206 => ?_
            have s199 : SL w [] _ [Sl Ty.bool v24 x20, Sl Ty.bool v3 s1.1, Sl T_provisoref19_ins v4 s1.2.1] := s195.drop
            refine kq_end ⟨s199, ?_⟩
            refine hd_one (i := 14) rfl (by kernel_rfl) ?_
            have s200 := s195
            refine st_storea F206 s200 rfl rfl Fx.sz156 (one_cons rfl (one_cons rfl (one_cons rfl (one_cons rfl one_nil)))) (Nat.le_of_ble_eq_true rfl) fun w50 q207 F207 s201 => ?_
            replace s201 : SL w [] w50 [Blk g15 156 [.int .u8 (x12.1.op.toNat : Int), .int .i64 x12.1.a, .int .i64 x12.1.b, .int .i64 x12.1.to], Sl Ty.bool v24 x20, Sl Ty.bool v3 s1.1, Sl T_provisoref19_ins v4 s1.2.1] := s201
            have s202 : SL w [] _ [Sl Ty.bool v24 x20, Sl Ty.bool v3 s1.1, Sl T_provisoref19_ins v4 s1.2.1] := s201.drop
            refine kq_end ⟨s202, ?_⟩
            refine hd_one (i := 15) rfl (by kernel_rfl) ?_
            refine st_op F207 (ex_asg rfl) rfl rfl rfl fun q208 F208 => ?_
            have s203 : SL w [] _ [Sl Ty.bool v24 x20, Sl Ty.bool v3 s1.1, Sl T_provisoref19_ins v4 s1.2.1] := s201.drop
            refine kq_end ⟨s203, ?_⟩
            refine hd_done (by kernel_rfl) ?_
            obtain rfl := some_ok H
            refine then_n ?_
            exact ⟨g15, F208.sub ⟨rfl, rfl, rfl, rfl, rfl, rfl, rfl, rfl, rfl, rfl, rfl, rfl, rfl, trivial⟩, s201.f3.f3.f3⟩
           ·have s204 := s195
            refine st_storea F205 s204 rfl rfl Fx.sz156 (one_cons rfl (one_cons rfl (one_cons rfl (one_cons rfl one_nil)))) (Nat.le_of_ble_eq_true rfl) fun w51 q209 F209 s205 => ?_
            replace s205 : SL w [] w51 [Blk g15 156 [.int .u8 (x12.1.op.toNat : Int), .int .i64 x12.1.a, .int .i64 x12.1.b, .int .i64 x12.1.to], Sl Ty.bool v24 x20, Sl Ty.bool v3 s1.1, Sl T_provisoref19_ins v4 s1.2.1] := s205
            have s206 : SL w [] _ [Sl Ty.bool v24 x20, Sl Ty.bool v3 s1.1, Sl T_provisoref19_ins v4 s1.2.1] := s205.drop
            refine kq_end ⟨s206, ?_⟩
            refine hd_one (i := 12) rfl (by kernel_rfl) ?_
            refine st_op F209 (ex_extract (v := .bool x12.2) rfl rfl) rfl rfl rfl fun q210 F210 => ?_
            have s207 : SL w [] _ [Sl Ty.bool v24 x20, Sl Ty.bool v3 s1.1, Sl T_provisoref19_ins v4 s1.2.1] := s205.drop
            refine kq_end ⟨s207, ?_⟩
            refine hd_one (i := 15) rfl (by kernel_rfl) ?_
            refine st_op F210 (ex_asg rfl) rfl rfl rfl fun q211 F211 => ?_
            have s208 : SL w [] _ [Sl Ty.bool v24 x20, Sl Ty.bool v3 s1.1, Sl T_provisoref19_ins v4 s1.2.1] := s205.drop
            refine kq_end ⟨s208, ?_⟩
            refine hd_done (by kernel_rfl) ?_
            obtain rfl := some_ok H
            refine then_n ?_
            exact ⟨g15, F211.sub ⟨rfl, rfl, rfl, rfl, rfl, rfl, rfl, rfl, rfl, rfl, rfl, rfl, rfl, trivial⟩, s205.f3.f3.f3⟩
          ·refine st_op F204 (ex_extract (v := .bool x12.2) rfl rfl) rfl rfl rfl fun q212 F212 => ?_
           have s209 : SL w [] _ [Sl Ty.bool v24 x20, Sl Ty.bool v3 s1.1, Sl T_provisoref19_ins v4 s1.2.1] := s195.drop
           refine kq_end ⟨s209, ?_⟩
           refine hd_one (i := 11) rfl (by kernel_rfl) ?_
           refine st_op F212 (ex_extract (v := .agg ⟨[.int .u8 (x12.1.op.toNat : Int), .int .i64 x12.1.a, .int .i64 x12.1.b, .int .i64 x12.1.to]⟩) rfl rfl) rfl rfl rfl fun q213 F213 => ?_
           have s210 : SL w [] _ [Sl Ty.bool v24 x20, Sl Ty.bool v3 s1.1, Sl T_provisoref19_ins v4 s1.2.1] := s195.drop
           refine kq_end ⟨s210, ?_⟩
           refine hd_one (i := 14) rfl (by kernel_rfl) ?_
           have s211 := s195
           refine st_storea F213 s211 rfl rfl Fx.sz156 (one_cons rfl (one_cons rfl (one_cons rfl (one_cons rfl one_nil)))) (Nat.le_of_ble_eq_true rfl) fun w53 q214 F214 s212 => ?_
           replace s212 : SL w [] w53 [Blk g15 156 [.int .u8 (x12.1.op.toNat : Int), .int .i64 x12.1.a, .int .i64 x12.1.b, .int .i64 x12.1.to], Sl Ty.bool v24 x20, Sl Ty.bool v3 s1.1, Sl T_provisoref19_ins v4 s1.2.1] := s212
           have s213 : SL w [] _ [Sl Ty.bool v24 x20, Sl Ty.bool v3 s1.1, Sl T_provisoref19_ins v4 s1.2.1] := s212.drop
           refine kq_end ⟨s213, ?_⟩
           refine hd_one (i := 15) rfl (by kernel_rfl) ?_
           refine st_op F214 (ex_asg rfl) rfl rfl rfl fun q215 F215 => ?_
           have s214 : SL w [] _ [Sl Ty.bool v24 x20, Sl Ty.bool v3 s1.1, Sl T_provisoref19_ins v4 s1.2.1] := s212.drop
           refine kq_end ⟨s214, ?_⟩
           refine hd_done (by kernel_rfl) ?_
           obtain rfl := some_ok H
           refine then_n ?_
           exact ⟨g15, F215.sub ⟨rfl, rfl, rfl, rfl, rfl, rfl, rfl, rfl, rfl, rfl, rfl, rfl, rfl, trivial⟩, s212.f3.f3.f3⟩
        ·intro q216 w54 hJ
         obtain ⟨g8, F216, s215⟩ := hJ
         have H := R4
         clear R4 H4
         refine then_n <| wp_seq <| wp_reg ?_
         refine st_pr F216 (PR.op (ex_move rfl) <| PR.nil) fun q217 F217 => ?_
         refine st_end <| then_n ?_
         refine wp_if F217 rfl (fun hb7 => ?_) (fun hb7 => ?_)
         ·replace H := ite_t hb7 H
          refine wp_seq <| wp_reg ?_
          obtain ⟨x13, hx13, H⟩ := bind_ok H
          obtain ⟨a14, hi11, he6⟩ := own_idx F_provisoref19_ins s215 (.tail _ <| .tail _ <| .head _) Fx.sl126 rfl hx13
          refine st_pr F217 (PR.op (ex_move rfl) <| PR.op (ex_move rfl) <| PR.op (ex_ldagg Fx.agg156 rfl (s215.blk_cells (.tail _ <| .tail _ <| .tail _ <| .head _) (o := 0) (ds := [.int .u8 (o5.1.toNat : Int), .int .i64 o5.2.1, .int .i64 o5.2.2.1, .int .i64 o5.2.2.2.1]) (fun j u hu => by rw [Nat.zero_add]; exact hu)) rfl) <| PR.op (hi11 _ _ _ _ _ _ _ _ _ _ rfl rfl) <| PR.nil) fun q218 F218 => ?_
          refine st_setel (y' := (⟨o5.1, o5.2.1, o5.2.2.1, o5.2.2.2.1⟩ : S_provisoref19_ins)) F_provisoref19_ins F218 s215.f2 he6 hx13 rfl rfl (by rfl) Fx.sz156 fun w55 q219 F219 s216 => ?_
          refine st_end <| then_n <| wp_seq <| wp_reg ?_
          obtain ⟨x14, hx14, H⟩ := bind_ok H
          obtain ⟨a15, hi12, he7⟩ := own_idx Flat.bool s216 (.tail _ <| .tail _ <| .head _) Fx.sl93 rfl hx14
          refine st_pr F219 (PR.op (ex_move rfl) <| PR.op (ex_move rfl) <| PR.op (ex_move rfl) <| PR.op (ex_move rfl) <| PR.op (ex_add rfl rfl) <| PR.op (ex_fab Fx.fa156_0 rfl rfl) <| PR.op (ex_ld Fx.nag5 rfl (s216.blk_cell (.tail _ <| .tail _ <| .tail _ <| .head _) rfl)) <| PR.op (ex_eq rfl rfl) <| PR.op (hi12 _ _ _ _ _ _ _ _ _ _ rfl rfl) <| PR.nil) fun q220 F220 => ?_
          refine st_setel (y' := ((o5.1.toNat : Int) == 0)) Flat.bool F220 s216.f2 he7 hx14 rfl rfl (by rfl) Fx.sz4 fun w56 q221 F221 s217 => ?_
          obtain ⟨x15, hx15, H⟩ := bind_ok H
          obtain ⟨a16, hi13, he8⟩ := own_idx Flat.bool s217 (.head _) Fx.sl93 rfl hx15
          refine st_pr F221 (PR.op (hi13 _ _ _ _ _ _ _ _ _ _ rfl rfl) <| PR.nil) fun q222 F222 => ?_
          refine st_setel (y' := true) Flat.bool F222 s217 he8 hx15 rfl rfl (by rfl) Fx.sz4 fun w57 q223 F223 s218 => ?_
          refine st_end <| then_n <| wp_reg ?_
          refine st_pr F223 (PR.op (ex_move rfl) <| PR.op (ex_add rfl rfl) <| PR.op (ex_asg rfl) <| PR.nil) fun q224 F224 => ?_
          refine st_end ?_
          refine blk_n ?_
          obtain rfl := some_ok H
          refine then_n ?_
          exact ⟨v3, v4, F224.sub ⟨rfl, rfl, rfl, rfl, rfl, trivial⟩, s218.f3.drop.f1.f1.f2⟩
         ·replace H := ite_f hb7 H
          refine wp_skip ?_
          refine blk_n ?_
          obtain rfl := some_ok H
          refine then_n ?_
          exact ⟨v3, v4, F217.sub ⟨rfl, rfl, rfl, rfl, rfl, trivial⟩, s215.f3.drop⟩
       ·replace H := ite_f hb6 H
        refine wp_skip ?_
        refine blk_n ?_
        obtain rfl := some_ok H
        refine then_n ?_
        exact ⟨v3, v4, F144.sub ⟨rfl, rfl, rfl, rfl, rfl, trivial⟩, s113⟩
      ·replace H := ite_f hb5 H
       refine st_gskip F137 rfl rfl (look_b rfl hb5) Bool.noConfusion rfl rfl fun q225 F225 => ?_
       refine st_gskip F225 rfl rfl (look_b rfl hb5) Bool.noConfusion rfl rfl fun q226 F226 => ?_
       refine st_gskip F226 rfl rfl (look_b rfl hb5) Bool.noConfusion rfl rfl fun q227 F227 => ?_
       refine st_gskip F227 rfl rfl (look_b rfl hb5) Bool.noConfusion rfl rfl fun q228 F228 => ?_
       refine st_gskip F228 rfl rfl (look_b rfl hb5) Bool.noConfusion rfl rfl fun q229 F229 => ?_
       refine st_gskip F229 rfl rfl (look_b rfl hb5) Bool.noConfusion rfl rfl fun q230 F230 => ?_
       refine st_pr F230 (PR.op (ex_pick_f (ev_b rfl hb5) rfl) <| PR.nil) fun q231 F231 => ?_
       refine st_end <| then_n ?_
       refine wp_if_f F231 rfl ?_
       refine wp_skip ?_
       refine blk_n ?_
       obtain rfl := some_ok H
       refine then_n ?_
       exact ⟨v3, v4, F231.sub ⟨rfl, rfl, rfl, rfl, rfl, trivial⟩, s113⟩
    ·intro q232 w58 hJ
     obtain ⟨v5, v6, F232, s219⟩ := hJ
     have H := R1
     clear R1 H1
     refine then_n <| wp_reg ?_
     refine st_pr F232 (PR.op (ex_move rfl) <| PR.op (ex_add rfl rfl) <| PR.op (ex_asg rfl) <| PR.nil) fun q233 F233 => ?_
     refine st_end ?_
     obtain rfl := some_ok H
     refine then_n ?_
     exact ⟨_, rfl, v5, v6, F233.sub ⟨rfl, rfl, rfl, rfl, rfl, trivial⟩, s219⟩
   ·replace H := ite_f hb0 H
    refine wp_exit <| then_x <| then_x <| blk_hit ?_
    obtain rfl := some_ok H
    obtain rfl := hr _ rfl
    refine then_n ?_
    exact ⟨v3, v4, F3.sub ⟨rfl, rfl, trivial⟩, s2.drop⟩
 ·intro q234 w59 hJ
  obtain ⟨v1, v2, F234, s220⟩ := hJ
  have H := R0
  clear R0 H0
  refine then_n <| wp_seq <| wp_reg ?_
  obtain ⟨x16, hx16, H⟩ := bind_ok H
  refine st_pr F234 (PR.op (ex_move rfl) <| PR.op (ex_move rfl) <| PR.nil) fun q235 F235 => ?_
  refine st_call (args := [.tmp 122, .tmp 123]) F235 Fx.fn103 rfl (provisoref19_left_c (a0 := o0.2) (a1 := o0.1)  (s220.rd0 (.tail _ <| .head _)) (s220.rd0 (.head _)) hx16) rfl fun v11 w60 q236 hS4 F236 => ?_
  obtain ⟨_, rfl, hq4⟩ := hS4
  have s221 := s220.add hq4
  refine st_pr F236 (PR.op (ex_asg rfl) <| PR.nil) fun q237 F237 => ?_
  refine st_end <| then_n ?_
  obtain rfl := some_ok H
  refine wp_ret ?_
  refine ret_gen (rs := [.tmp 2]) (vs := [v11]) F237 (by rfl) ⟨_, _, rfl, RV.tmp rfl, rfl⟩ ⟨_, rfl, ⟨v11, rfl, s221.f1.drop.f1.drop⟩⟩
-- The walk of proviso/provisoref19.idle.
theorem provisoref19_idle_c {w : World} {v0 : Value} {a0 : List S_provisoref19_ins} {r : (List S_provisoref19_ins)} (hr0 : Rd T_provisoref19_ins w [] v0 a0) (H : provisoref19_idle a0 = some r) :
  Calls Try.prog 76 #[v0] w (Ret fun u_ w_ => ∃ u0 : Value, u_ = u0 ∧ SL w [] w_ [Sl T_provisoref19_ins u0 r]) := by
 have s0 : SL w [] w [] := SL.init0 w
 refine call_enter Try.func76 rfl Try.ntmps76 (Nat.le_of_ble_eq_true rfl) (args := [v0]) fun q0 F0 => ?_
 unfold provisoref19_idle at H
 refine wp_seq <| wp_reg ?_
 refine st_pr F0 (PR.op (ex_asg rfl) <| PR.nil) fun q3 F4 => ?_
 refine st_end <| then_n <| wp_seq <| wp_reg ?_
 obtain ⟨x17, hx18, H⟩ := bind_ok H
 refine st_pr F4 (PR.op (ex_move rfl) <| PR.op (ex_len rfl Try.underlying126 (formL (rdL hr0 s0))) <| PR.nil) fun q19 F20 => ?_
 refine st_make Flat.bool false F20 s0 Fx.sl93 rfl rfl Fx.zero4 rfl rfl rfl hx18 rfl fun v21 w22 q23 F24 s25 => ?_
 refine st_pr F24 (PR.op (ex_asg rfl) <| PR.nil) fun q27 F28 => ?_
 refine st_end <| then_n <| wp_seq <| wp_reg ?_
 refine st_bslice (parts := []) F_provisoref19_ins ([] : List S_provisoref19_ins) F28 s25 Fx.sl126 rfl (by decide) rfl rfl rfl (by simp [Value.cells]) rfl rfl rfl fun v47 w48 q49 F50 s51 => ?_
 obtain ⟨x53, hx54, H⟩ := bind_ok H
 refine st_pr F50 (PR.op (ex_move rfl) <| PR.nil) fun q55 F56 => ?_
 have s62 := s51
 obtain ⟨_, hr_⟩ := (rdL hr0 s62)
 refine st_append_rd F_provisoref19_ins F56 s62 Fx.sl126 rfl rfl rfl rfl hr_ rfl rfl hx54 rfl fun v57 w58 q59 F60 s61 => ?_
 refine st_pr F60 (PR.op (ex_asg rfl) <| PR.nil) fun q63 F64 => ?_
 refine st_end <| then_n <| wp_seq <| wp_seq <| wp_reg ?_
 refine st_pr F64 (PR.op (ex_move rfl) <| PR.op (ex_len rfl Try.underlying126 (formL (rdL hr0 s61))) <| PR.op (ex_move rfl) <| PR.nil) fun q1 F1 => ?_
 refine st_end <| then_n ?_
 obtain ⟨o0, H0, R0⟩ := bind_ok H
 clear H
 refine wp_cutn (fun a w_ => ∃ v1 v2 : Value, Fr a 56 [(3, v1), (4, v2)] ∧ SL w [] w_ [Sl Ty.bool v1 o0.1, Sl T_provisoref19_ins v2 o0.2]) ?_ ?_
 ·have H := H0
  refine wp_block ?_
  refine wp_lp (provisoref19_idle_b0 a0) (fun s1 a w_ => ∃ v3 v4 : Value, Fr a 56 [(3, v3), (4, v4), (13, v0), (14, .int .i64 (a0.length : Int)), (15, .int .i64 s1.2.2)] ∧ SL w [] w_ [Sl Ty.bool v3 s1.1, Sl T_provisoref19_ins v4 s1.2.1]) H ?_ ?_
  ·exact ⟨v21, v57, F1.sub ⟨rfl, rfl, rfl, rfl, rfl, trivial⟩, s61.f1⟩
  ·intro s1 q2 w0 hI0 o1 H hr
   obtain ⟨v3, v4, F2, s2⟩ := hI0
   replace H : provisoref19_idle_b0 a0 s1 = some o1 := H
   unfold provisoref19_idle_b0 at H
   refine wp_seq <| wp_reg ?_
   refine st_pr F2 (PR.op (ex_lt rfl rfl) <| PR.nil) fun q4 F3 => ?_
   refine st_end <| then_n <| wp_seq ?_
   refine wp_if F3 rfl (fun hb0 => ?_) (fun hb0 => ?_)
   ·replace H := ite_t hb0 H
    refine wp_skip <| then_n <| wp_seq <| wp_block <| wp_seq <| wp_reg ?_
    obtain ⟨x0, hx0, H⟩ := bind_ok H
    obtain ⟨a2, hi0, hc0⟩ := idxL F_provisoref19_ins (rdL hr0 s2) Fx.sl126 rfl hx0
    refine st_pr F3 (PR.op (ex_move rfl) <| PR.op (hi0 _ _ _ _ _ _ _ _ _ _ rfl rfl) <| PR.op (ex_ldagg Fx.agg156 rfl hc0 rfl) <| PR.nil) fun q5 F5 => ?_
    refine st_alloc F5 s2 Fx.zero156 rfl rfl fun g0 w1 q6 F6 s3 => ?_
    refine st_pr F6 (PR.op (ex_asg rfl) <| PR.nil) fun q7 F7 => ?_
    have s4 := s3
    refine st_storea F7 s4 rfl rfl Fx.sz156 (one_cons rfl (one_cons rfl (one_cons rfl (one_cons rfl one_nil)))) (Nat.le_of_ble_eq_true rfl) fun w2 q8 F8 s5 => ?_
    replace s5 : SL w [] w2 [Blk g0 156 [.int .u8 (x0.op.toNat : Int), .int .i64 x0.a, .int .i64 x0.b, .int .i64 x0.to], Sl Ty.bool v3 s1.1, Sl T_provisoref19_ins v4 s1.2.1] := s5
    refine st_end <| then_n <| wp_block <| wp_seq ?_
    obtain ⟨o2, H1, R1⟩ := bind_ok H
    clear H
    refine wp_cutn (fun a w_ => Fr a 56 [(3, v3), (4, v4), (5, .int .i64 s1.2.2), (6, .pointer (some ⟨g0, 0, none⟩)), (13, v0), (14, .int .i64 (a0.length : Int)), (15, .int .i64 s1.2.2), (20, .bool o2)] ∧ SL w [] w_ [Blk g0 156 [.int .u8 (x0.op.toNat : Int), .int .i64 x0.a, .int .i64 x0.b, .int .i64 x0.to], Sl Ty.bool v3 s1.1, Sl T_provisoref19_ins v4 s1.2.1]) ?_ ?_
    ·have H := H1
     refine wp_seq <| wp_reg ?_
     refine st_pr F8 (PR.op (ex_fab Fx.fa156_0 rfl rfl) <| PR.op (ex_ld Fx.nag5 rfl (s5.blk_cell (.head _) rfl)) <| PR.op (ex_eq rfl rfl) <| PR.op (ex_asg rfl) <| PR.nil) fun q9 F9 => ?_
     refine st_end <| then_n ?_
     refine wp_if F9 rfl (fun hb1 => ?_) (fun hb1 => ?_)
     ·replace H := ite_t hb1 H
      refine wp_skip ?_
      obtain rfl := some_ok H
      refine then_n ?_
      exact ⟨F9.sub ⟨rfl, rfl, rfl, rfl, rfl, rfl, rfl, rfl, trivial⟩, s5⟩
     ·replace H := ite_f hb1 H
      refine wp_reg ?_
      refine st_pr F9 (PR.op (ex_fab Fx.fa156_0 rfl rfl) <| PR.op (ex_ld Fx.nag5 rfl (s5.blk_cell (.head _) rfl)) <| PR.op (ex_eq rfl rfl) <| PR.op (ex_move rfl) <| PR.nil) fun q10 F10 => ?_
      refine bool_split ((x0.op.toNat : Int) == 19) (fun hb2 => ?_) (fun hb2 => ?_)
      ·replace H := ite_t hb2 H
       refine st_gop F10 rfl rfl (look_b rfl hb2) (ex_fab Fx.fa156_3 rfl rfl) rfl rfl fun q11 F11 => ?_
       refine st_gop F11 rfl rfl (look_b rfl hb2) (ex_ld Fx.nag3 rfl (s5.blk_cell (.head _) rfl)) rfl rfl fun q12 F12 => ?_
       refine st_gop F12 rfl rfl (look_b rfl hb2) (ex_move rfl) rfl rfl fun q13 F13 => ?_
       refine st_gop F13 rfl rfl (look_b rfl hb2) (ex_add rfl rfl) rfl rfl fun q14 F14 => ?_
       refine st_gop F14 rfl rfl (look_b rfl hb2) (ex_eq rfl rfl) rfl rfl fun q15 F15 => ?_
       refine st_pr F15 (PR.op (ex_pick_t (ev_b rfl hb2) rfl) <| PR.op (ex_asg rfl) <| PR.nil) fun q16 F16 => ?_
       refine st_end ?_
       obtain rfl := some_ok H
       refine then_n ?_
       exact ⟨F16.sub ⟨rfl, rfl, rfl, rfl, rfl, rfl, rfl, rfl, trivial⟩, s5⟩
      ·replace H := ite_f hb2 H
       refine st_gskip F10 rfl rfl (look_b rfl hb2) Bool.noConfusion rfl rfl fun q17 F17 => ?_
       refine st_gskip F17 rfl rfl (look_b rfl hb2) Bool.noConfusion rfl rfl fun q18 F18 => ?_
       refine st_gskip F18 rfl rfl (look_b rfl hb2) Bool.noConfusion rfl rfl fun q20 F19 => ?_
       refine st_gskip F19 rfl rfl (look_b rfl hb2) Bool.noConfusion rfl rfl fun q21 F21 => ?_
       refine st_gskip F21 rfl rfl (look_b rfl hb2) Bool.noConfusion rfl rfl fun q22 F22 => ?_
       refine st_pr F22 (PR.op (ex_pick_f (ev_b rfl hb2) rfl) <| PR.op (ex_asg rfl) <| PR.nil) fun q24 F23 => ?_
       refine st_end ?_
       obtain rfl := some_ok H
       refine then_n ?_
       exact ⟨F23.sub ⟨rfl, rfl, rfl, rfl, rfl, rfl, rfl, rfl, trivial⟩, s5⟩
    ·intro q25 w3 hJ
     obtain ⟨F25, s6⟩ := hJ
     have H := R1
     clear R1 H1
     refine then_n ?_
     refine wp_if F25 rfl (fun hb3 => ?_) (fun hb3 => ?_)
     ·replace H := ite_t hb3 H
      refine wp_reg ?_
      obtain ⟨x1, hx1, H⟩ := bind_ok H
      obtain ⟨a3, hi1, he0⟩ := own_idx Flat.bool s6 (.tail _ <| .head _) Fx.sl93 rfl hx1
      refine st_pr F25 (PR.op (ex_move rfl) <| PR.op (ex_move rfl) <| PR.op (hi1 _ _ _ _ _ _ _ _ _ _ rfl rfl) <| PR.nil) fun q26 F26 => ?_
      refine st_setel (y' := true) Flat.bool F26 s6.f1 he0 hx1 rfl rfl (by rfl) Fx.sz4 fun w4 q28 F27 s7 => ?_
      refine st_end ?_
      refine blk_n ?_
      refine blk_n ?_
      refine then_n <| wp_reg ?_
      refine st_pr F27 (PR.op (ex_add rfl rfl) <| PR.op (ex_move rfl) <| PR.nil) fun q29 F29 => ?_
      refine st_end ?_
      obtain rfl := some_ok H
      refine then_n ?_
      exact ⟨_, rfl, v3, v4, F29.sub ⟨rfl, rfl, rfl, rfl, rfl, trivial⟩, s7.f1.drop⟩
     ·replace H := ite_f hb3 H
      refine wp_seq <| wp_reg ?_
      refine st_pr F25 (PR.op (ex_fab Fx.fa156_0 rfl rfl) <| PR.op (ex_ld Fx.nag5 rfl (s6.blk_cell (.head _) rfl)) <| PR.op (ex_eq rfl rfl) <| PR.op (ex_move rfl) <| PR.nil) fun q30 F30 => ?_
      refine bool_split ((x0.op.toNat : Int) == 20) (fun hb4 => ?_) (fun hb4 => ?_)
      ·replace H := ite_t hb4 H
       refine st_gop F30 rfl rfl (look_b rfl hb4) (ex_fab Fx.fa156_3 rfl rfl) rfl rfl fun q31 F31 => ?_
       refine st_gop F31 rfl rfl (look_b rfl hb4) (ex_ld Fx.nag3 rfl (s6.blk_cell (.head _) rfl)) rfl rfl fun q32 F32 => ?_
       refine st_gop F32 rfl rfl (look_b rfl hb4) (ex_move rfl) rfl rfl fun q33 F33 => ?_
       refine st_gop F33 rfl rfl (look_b rfl hb4) (ex_add rfl rfl) rfl rfl fun q34 F34 => ?_
       refine st_gop F34 rfl rfl (look_b rfl hb4) (ex_eq rfl rfl) rfl rfl fun q35 F35 => ?_
       refine st_pr F35 (PR.op (ex_pick_t (ev_b rfl hb4) rfl) <| PR.op (ex_asg rfl) <| PR.nil) fun q36 F36 => ?_
       refine st_end <| then_n ?_
       refine wp_if F36 rfl (fun hb5 => ?_) (fun hb5 => ?_)
       ·replace H := ite_t hb5 H
        refine wp_reg ?_
        obtain ⟨x2, hx2, H⟩ := bind_ok H
        obtain ⟨a4, hi2, he1⟩ := own_idx F_provisoref19_ins s6 (.tail _ <| .tail _ <| .head _) Fx.sl126 rfl hx2
        refine st_pr F36 (PR.op (ex_move rfl) <| PR.op (ex_move rfl) <| PR.op (ex_build (vs := [.int .u8 6, .int .i64 (-1)]) Fx.zero156 Fx.pl156 rfl (cs := [.int .u8 6, .int .i64 0, .int .i64 0, .int .i64 (-1)]) (rfl)) <| PR.op (hi2 _ _ _ _ _ _ _ _ _ _ rfl rfl) <| PR.nil) fun q37 F37 => ?_
        refine st_setel (y' := (⟨6, 0, 0, (-1)⟩ : S_provisoref19_ins)) F_provisoref19_ins F37 s6.f2 he1 hx2 rfl rfl (by rfl) Fx.sz156 fun w5 q38 F38 s8 => ?_
        refine st_end ?_
        refine blk_n ?_
        refine blk_n ?_
        refine then_n <| wp_reg ?_
        refine st_pr F38 (PR.op (ex_add rfl rfl) <| PR.op (ex_move rfl) <| PR.nil) fun q39 F39 => ?_
        refine st_end ?_
        obtain rfl := some_ok H
        refine then_n ?_
        exact ⟨_, rfl, v3, v4, F39.sub ⟨rfl, rfl, rfl, rfl, rfl, trivial⟩, s8.f1.drop.f1⟩
       ·replace H := ite_f hb5 H
        refine wp_skip ?_
        refine blk_n ?_
        refine blk_n ?_
        refine then_n <| wp_reg ?_
        refine st_pr F36 (PR.op (ex_add rfl rfl) <| PR.op (ex_move rfl) <| PR.nil) fun q40 F40 => ?_
        refine st_end ?_
        obtain rfl := some_ok H
        refine then_n ?_
        exact ⟨_, rfl, v3, v4, F40.sub ⟨rfl, rfl, rfl, rfl, rfl, trivial⟩, s6.drop⟩
      ·replace H := ite_f hb4 H
       refine st_gskip F30 rfl rfl (look_b rfl hb4) Bool.noConfusion rfl rfl fun q41 F41 => ?_
       refine st_gskip F41 rfl rfl (look_b rfl hb4) Bool.noConfusion rfl rfl fun q42 F42 => ?_
       refine st_gskip F42 rfl rfl (look_b rfl hb4) Bool.noConfusion rfl rfl fun q43 F43 => ?_
       refine st_gskip F43 rfl rfl (look_b rfl hb4) Bool.noConfusion rfl rfl fun q44 F44 => ?_
       refine st_gskip F44 rfl rfl (look_b rfl hb4) Bool.noConfusion rfl rfl fun q45 F45 => ?_
       refine st_pr F45 (PR.op (ex_pick_f (ev_b rfl hb4) rfl) <| PR.op (ex_asg rfl) <| PR.nil) fun q46 F46 => ?_
       refine st_end <| then_n ?_
       refine wp_if_f F46 rfl ?_
       refine wp_skip ?_
       refine blk_n ?_
       refine blk_n ?_
       refine then_n <| wp_reg ?_
       refine st_pr F46 (PR.op (ex_add rfl rfl) <| PR.op (ex_move rfl) <| PR.nil) fun q47 F47 => ?_
       refine st_end ?_
       obtain rfl := some_ok H
       refine then_n ?_
       exact ⟨_, rfl, v3, v4, F47.sub ⟨rfl, rfl, rfl, rfl, rfl, trivial⟩, s6.drop⟩
   ·replace H := ite_f hb0 H
    refine wp_exit <| then_x <| then_x <| blk_hit ?_
    obtain rfl := some_ok H
    obtain rfl := hr _ rfl
    refine then_n ?_
    exact ⟨v3, v4, F3.sub ⟨rfl, rfl, trivial⟩, s2⟩
 ·intro q48 w6 hJ
  obtain ⟨v1, v2, F48, s9⟩ := hJ
  have H := R0
  clear R0 H0
  refine then_n <| wp_seq <| wp_reg ?_
  obtain ⟨x3, hx3, H⟩ := bind_ok H
  refine st_pr F48 (PR.op (ex_move rfl) <| PR.op (ex_move rfl) <| PR.nil) fun q50 F49 => ?_
  refine st_call (args := [.tmp 53, .tmp 54]) F49 Fx.fn103 rfl (provisoref19_left_c (a0 := o0.2) (a1 := o0.1)  (s9.rd0 (.tail _ <| .head _)) (s9.rd0 (.head _)) hx3) rfl fun v5 w7 q51 hS0 F51 => ?_
  obtain ⟨_, rfl, hq0⟩ := hS0
  have s10 := s9.add hq0
  refine st_pr F51 (PR.op (ex_asg rfl) <| PR.nil) fun q52 F52 => ?_
  refine st_end <| then_n ?_
  obtain rfl := some_ok H
  refine wp_ret ?_
  refine ret_gen (rs := [.tmp 2]) (vs := [v5]) F52 (by rfl) ⟨_, _, rfl, RV.tmp rfl, rfl⟩ ⟨_, rfl, ⟨v5, rfl, s10.f1.drop.f1.drop⟩⟩
-- The walk of proviso/provisoref19.dead.
theorem provisoref19_dead_c {w : World} {v0 : Value} {a0 : List S_provisoref19_ins} {r : (List S_provisoref19_ins)} (hr0 : Rd T_provisoref19_ins w [] v0 a0) (H : provisoref19_dead a0 = some r) :
  Calls Try.prog 77 #[v0] w (Ret fun u_ w_ => ∃ u0 : Value, u_ = u0 ∧ SL w [] w_ [Sl T_provisoref19_ins u0 r]) := by
 have s0 : SL w [] w [] := SL.init0 w
 refine call_enter Try.func77 rfl Try.ntmps77 (Nat.le_of_ble_eq_true rfl) (args := [v0]) fun q0 F0 => ?_
 unfold provisoref19_dead at H
 refine wp_seq <| wp_reg ?_
 refine st_pr F0 (PR.op (ex_asg rfl) <| PR.nil) fun q3 F4 => ?_
 refine st_end <| then_n <| wp_seq <| wp_reg ?_
 obtain ⟨x17, hx18, H⟩ := bind_ok H
 refine st_pr F4 (PR.op (ex_move rfl) <| PR.op (ex_len rfl Try.underlying126 (formL (rdL hr0 s0))) <| PR.nil) fun q19 F20 => ?_
 refine st_make Flat.bool false F20 s0 Fx.sl93 rfl rfl Fx.zero4 rfl rfl rfl hx18 rfl fun v21 w22 q23 F24 s25 => ?_
 refine st_pr F24 (PR.op (ex_asg rfl) <| PR.nil) fun q27 F28 => ?_
 refine st_end <| then_n <| wp_seq <| wp_seq <| wp_reg ?_
 refine st_pr F28 (PR.op (ex_move rfl) <| PR.op (ex_len rfl Try.underlying93 (formL (s25.own_rd (.head _)))) <| PR.op (ex_move rfl) <| PR.nil) fun q1 F1 => ?_
 refine st_end <| then_n ?_
 obtain ⟨o0, H0, R0⟩ := bind_ok H
 clear H
 refine wp_cutn (fun a w_ => ∃ v1 : Value, Fr a 65 [(0, v0), (3, v1)] ∧ SL w [] w_ [Sl Ty.bool v1 o0]) ?_ ?_
 ·have H := H0
  refine wp_block ?_
  refine wp_lp (provisoref19_dead_b0 x17) (fun s1 a w_ => ∃ v2 : Value, Fr a 65 [(0, v0), (3, v2), (11, .int .i64 (x17.length : Int)), (12, .int .i64 s1.2)] ∧ SL w [] w_ [Sl Ty.bool v2 s1.1]) H ?_ ?_
  ·exact ⟨v21, F1.sub ⟨rfl, rfl, rfl, rfl, trivial⟩, s25⟩
  ·intro s1 q2 w0 hI0 o1 H hr
   obtain ⟨v2, F2, s2⟩ := hI0
   replace H : provisoref19_dead_b0 x17 s1 = some o1 := H
   unfold provisoref19_dead_b0 at H
   refine wp_seq <| wp_reg ?_
   refine st_pr F2 (PR.op (ex_lt rfl rfl) <| PR.nil) fun q4 F3 => ?_
   refine st_end <| then_n <| wp_seq ?_
   refine wp_if F3 rfl (fun hb0 => ?_) (fun hb0 => ?_)
   ·replace H := ite_t hb0 H
    refine wp_skip <| then_n <| wp_seq <| wp_block <| wp_seq <| wp_reg ?_
    refine st_pr F3 (PR.op (ex_move rfl) <| PR.op (ex_asg rfl) <| PR.nil) fun q5 F5 => ?_
    refine st_end <| then_n <| wp_reg ?_
    obtain ⟨x0, hx0, H⟩ := bind_ok H
    obtain ⟨a2, hi0, he0⟩ := own_idx Flat.bool s2 (.head _) Fx.sl93 rfl hx0
    refine st_pr F5 (PR.op (ex_move rfl) <| PR.op (ex_move rfl) <| PR.op (hi0 _ _ _ _ _ _ _ _ _ _ rfl rfl) <| PR.nil) fun q6 F6 => ?_
    refine st_setel (y' := true) Flat.bool F6 s2 he0 hx0 rfl rfl (by rfl) Fx.sz4 fun w1 q7 F7 s3 => ?_
    refine st_end ?_
    refine blk_n ?_
    refine then_n <| wp_reg ?_
    refine st_pr F7 (PR.op (ex_add rfl rfl) <| PR.op (ex_move rfl) <| PR.nil) fun q8 F8 => ?_
    refine st_end ?_
    obtain rfl := some_ok H
    refine then_n ?_
    exact ⟨_, rfl, v2, F8.sub ⟨rfl, rfl, rfl, rfl, trivial⟩, s3⟩
   ·replace H := ite_f hb0 H
    refine wp_exit <| then_x <| then_x <| blk_hit ?_
    obtain rfl := some_ok H
    obtain rfl := hr _ rfl
    refine then_n ?_
    exact ⟨v2, F3.sub ⟨rfl, rfl, trivial⟩, s2⟩
 ·intro q9 w2 hJ
  obtain ⟨v1, F9, s4⟩ := hJ
  have H := R0
  clear R0 H0
  refine then_n <| wp_seq <| wp_reg ?_
  refine st_bslice (parts := [(0, .const (.int .i64 0))]) (Flat.int .i64) ([0] : List Int) F9 s4 Fx.sl57 rfl (by decide) rfl rfl rfl (by simp [Value.cells]) rfl rfl rfl fun v3 w3 q10 F10 s5 => ?_
  refine st_pr F10 (PR.op (ex_asg rfl) <| PR.nil) fun q11 F11 => ?_
  refine st_end <| then_n <| wp_seq ?_
  obtain ⟨o2, H1, R1⟩ := bind_ok H
  clear H
  refine wp_cutn (fun a w_ => ∃ v4 : Value, Fr a 65 [(0, v0), (3, v4)] ∧ SL w [] w_ [Sl Ty.bool v4 o2]) ?_ ?_
  ·have H := H1
   refine wp_block ?_
   refine wp_lp (provisoref19_dead_b1 a0) (fun s6 a w_ => ∃ v5 v6 : Value, Fr a 65 [(0, v0), (3, v5), (5, v6)] ∧ SL w [] w_ [Sl Ty.bool v5 s6.1, Sl (Ty.int .i64) v6 s6.2]) H ?_ ?_
   ·exact ⟨v1, v3, F11.sub ⟨rfl, rfl, rfl, trivial⟩, s5.f1⟩
   ·intro s6 q12 w4 hI1 o3 H hr
    obtain ⟨v5, v6, F12, s7⟩ := hI1
    replace H : provisoref19_dead_b1 a0 s6 = some o3 := H
    unfold provisoref19_dead_b1 at H
    refine wp_seq <| wp_seq <| wp_reg ?_
    refine st_pr F12 (PR.op (ex_move rfl) <| PR.op (ex_len rfl Try.underlying57 (formL (s7.own_rd (.tail _ <| .head _)))) <| PR.op (ex_gt rfl rfl) <| PR.nil) fun q13 F13 => ?_
    refine st_end <| then_n ?_
    refine wp_if F13 rfl (fun hb1 => ?_) (fun hb1 => ?_)
    ·replace H := ite_t hb1 H
     refine wp_skip <| then_n <| wp_block <| wp_seq <| wp_reg ?_
     obtain ⟨x1, hx1, H⟩ := bind_ok H
     obtain ⟨a3, hi1, he1⟩ := own_idx (Flat.int .i64) s7 (.tail _ <| .head _) Fx.sl57 rfl hx1
     refine st_pr F13 (PR.op (ex_move rfl) <| PR.op (hi1 _ _ _ _ _ _ _ _ _ _ rfl rfl) <| PR.op (ex_ld Fx.nag3 rfl (Cells.at_ (SL.elcells (Flat.int .i64) s7 (.tail _ <| .head _) he1 hx1) (o := 0) rfl)) <| PR.op (ex_asg rfl) <| PR.nil) fun q14 F14 => ?_
     refine st_end <| then_n <| wp_seq <| wp_reg ?_
     obtain ⟨x2, hx2, H⟩ := bind_ok H
     refine st_pr F14 (PR.op (ex_move rfl) <| PR.nil) fun q15 F15 => ?_
     obtain ⟨v7, hs0, s8⟩ := SL.cutown s7.f1 Fx.sl57 rfl hx2 (some 1) none (.inl rfl) (.inr ⟨rfl, rfl⟩)
     refine st_op F15 (hs0 _ _ _ _ _ .i64 .i64 _ _ _ _ _ rfl rfl trivial) rfl rfl rfl fun q16 F16 => ?_
     refine st_pr F16 (PR.op (ex_asg rfl) <| PR.nil) fun q17 F17 => ?_
     refine st_end <| then_n <| wp_seq <| wp_seq <| wp_reg ?_
     obtain ⟨x3, hx3, H⟩ := bind_ok H
     obtain ⟨a4, hi2, he2⟩ := own_idx Flat.bool s8 (.tail _ <| .head _) Fx.sl93 rfl hx3
     refine st_pr F17 (PR.op (ex_move rfl) <| PR.op (ex_move rfl) <| PR.op (hi2 _ _ _ _ _ _ _ _ _ _ rfl rfl) <| PR.op (ex_ld Fx.nag4 rfl (Cells.at_ (SL.elcells Flat.bool s8 (.tail _ <| .head _) he2 hx3) (o := 0) rfl)) <| PR.op (ex_not rfl) <| PR.nil) fun q18 F18 => ?_
     refine st_end <| then_n ?_
     refine wp_if F18 rfl (fun hb2 => ?_) (fun hb2 => ?_)
     ·replace H := ite_t hb2 H
      refine wp_exit <| then_x <| blk_hit ?_
      obtain rfl := some_ok H
      refine then_n ?_
      exact ⟨_, rfl, v5, v7, F18.sub ⟨rfl, rfl, rfl, trivial⟩, s8.f1⟩
     ·replace H := ite_f hb2 H
      refine wp_skip <| then_n <| wp_seq <| wp_reg ?_
      obtain ⟨x4, hx4, H⟩ := bind_ok H
      obtain ⟨a5, hi3, he3⟩ := own_idx Flat.bool s8 (.tail _ <| .head _) Fx.sl93 rfl hx4
      refine st_pr F18 (PR.op (ex_move rfl) <| PR.op (ex_move rfl) <| PR.op (hi3 _ _ _ _ _ _ _ _ _ _ rfl rfl) <| PR.nil) fun q20 F19 => ?_
      refine st_setel (y' := false) Flat.bool F19 s8.f1 he3 hx4 rfl rfl (by rfl) Fx.sz4 fun w5 q21 F21 s9 => ?_
      refine st_end <| then_n <| wp_seq <| wp_seq <| wp_reg ?_
      obtain ⟨x5, hx5, H⟩ := bind_ok H
      obtain ⟨a6, hi4, hc0⟩ := idxL F_provisoref19_ins (rdL hr0 s9) Fx.sl126 rfl hx5
      refine st_pr F21 (PR.op (ex_move rfl) <| PR.op (ex_move rfl) <| PR.op (hi4 _ _ _ _ _ _ _ _ _ _ rfl rfl) <| PR.op (ex_fa Fx.fa156_3 rfl) <| PR.op (ex_ld Fx.nag3 rfl (Cells.at_ hc0 (o := 3) rfl)) <| PR.op (ex_ge rfl rfl) <| PR.nil) fun q22 F22 => ?_
      refine st_end <| then_n ?_
      refine wp_if F22 rfl (fun hb3 => ?_) (fun hb3 => ?_)
      ·replace H := ite_t hb3 H
       refine wp_reg ?_
       obtain ⟨x6, hx6, H⟩ := bind_ok H
       obtain ⟨a7, hi5, hc1⟩ := idxL F_provisoref19_ins (rdL hr0 s9) Fx.sl126 rfl hx6
       refine st_pr F22 (PR.op (ex_move rfl) <| PR.op (ex_move rfl) <| PR.op (ex_move rfl) <| PR.op (hi5 _ _ _ _ _ _ _ _ _ _ rfl rfl) <| PR.op (ex_fa Fx.fa156_3 rfl) <| PR.op (ex_ld Fx.nag3 rfl (Cells.at_ hc1 (o := 3) rfl)) <| PR.nil) fun q24 F23 => ?_
       refine st_bslice (parts := [(0, .tmp 47)]) (Flat.int .i64) ([x6.to] : List Int) F23 s9 Fx.sl57 rfl (by decide) rfl rfl rfl (by simp [Value.cells]) rfl rfl rfl fun v8 w6 q25 F25 s10 => ?_
       obtain ⟨x7, hx7, H⟩ := bind_ok H
       have s11 := s10.f2
       obtain ⟨_, hr_⟩ := (s11.own_rd (.tail _ <| .head _))
       refine st_append_rd (Flat.int .i64) F25 s11 Fx.sl57 rfl rfl rfl rfl hr_ rfl rfl hx7 rfl fun v9 w7 q26 F26 s12 => ?_
       have s4471' := s12.f1.drop
       refine st_pr F26 (PR.op (ex_asg rfl) <| PR.nil) fun q28 F27 => ?_
       refine st_end <| then_n <| wp_seq <| wp_reg ?_
       obtain ⟨x8, hx8, H⟩ := bind_ok H
       obtain ⟨a8, hi6, hc2⟩ := idxL F_provisoref19_ins (rdL hr0 s4471') Fx.sl126 rfl hx8
       obtain ⟨x9, hx9, H⟩ := bind_ok H
       refine st_pr F27 (PR.op (ex_move rfl) <| PR.op (ex_move rfl) <| PR.op (hi6 _ _ _ _ _ _ _ _ _ _ rfl rfl) <| PR.op (ex_fa Fx.fa156_0 rfl) <| PR.op (ex_ld Fx.nag5 rfl (Cells.at_ hc2 (o := 0) rfl)) <| PR.nil) fun q29 F29 => ?_
       refine st_call (args := [.tmp 54]) F29 Fx.fn49 rfl (provisoref04_Ends_c (a0 := x8.op)   hx9) rfl fun v10 w8 q30 hS0 F30 => ?_
       obtain ⟨rfl, hq0⟩ := hS0
       have s13 := s4471'.add hq0
       refine st_pr F30 (PR.op (ex_not rfl) <| PR.nil) fun q31 F31 => ?_
       refine st_end <| then_n ?_
       refine wp_if F31 rfl (fun hb4 => ?_) (fun hb4 => ?_)
       ·replace H := ite_t hb4 H
        refine wp_reg ?_
        refine st_pr F31 (PR.op (ex_move rfl) <| PR.op (ex_move rfl) <| PR.op (ex_add rfl rfl) <| PR.nil) fun q32 F32 => ?_
        refine st_bslice (parts := [(0, .tmp 59)]) (Flat.int .i64) ([wr (x1 + 1)] : List Int) F32 s13 Fx.sl57 rfl (by decide) rfl rfl rfl (by simp [Value.cells]) rfl rfl rfl fun v11 w9 q33 F33 s14 => ?_
        obtain ⟨x10, hx10, H⟩ := bind_ok H
        have s15 := s14.f1
        obtain ⟨_, hr_⟩ := (s15.own_rd (.tail _ <| .head _))
        refine st_append_rd (Flat.int .i64) F33 s15 Fx.sl57 rfl rfl rfl rfl hr_ rfl rfl hx10 rfl fun v12 w10 q34 F34 s16 => ?_
        have s4526' := s16.f1.drop
        refine st_pr F34 (PR.op (ex_asg rfl) <| PR.nil) fun q35 F35 => ?_
        refine st_end ?_
        refine blk_n ?_
        obtain rfl := some_ok H
        refine then_n ?_
        exact ⟨_, rfl, v5, v12, F35.sub ⟨rfl, rfl, rfl, trivial⟩, s4526'.f1⟩
       ·replace H := ite_f hb4 H
        refine wp_skip ?_
        refine blk_n ?_
        obtain rfl := some_ok H
        refine then_n ?_
        exact ⟨_, rfl, v5, v9, F31.sub ⟨rfl, rfl, rfl, trivial⟩, s13.f1⟩
      ·replace H := ite_f hb3 H
       refine wp_skip <| then_n <| wp_seq <| wp_reg ?_
       obtain ⟨x11, hx11, H⟩ := bind_ok H
       obtain ⟨a9, hi7, hc3⟩ := idxL F_provisoref19_ins (rdL hr0 s9) Fx.sl126 rfl hx11
       obtain ⟨x12, hx12, H⟩ := bind_ok H
       refine st_pr F22 (PR.op (ex_move rfl) <| PR.op (ex_move rfl) <| PR.op (hi7 _ _ _ _ _ _ _ _ _ _ rfl rfl) <| PR.op (ex_fa Fx.fa156_0 rfl) <| PR.op (ex_ld Fx.nag5 rfl (Cells.at_ hc3 (o := 0) rfl)) <| PR.nil) fun q36 F36 => ?_
       refine st_call (args := [.tmp 54]) F36 Fx.fn49 rfl (provisoref04_Ends_c (a0 := x11.op)   hx12) rfl fun v13 w11 q37 hS1 F37 => ?_
       obtain ⟨rfl, hq1⟩ := hS1
       have s17 := s9.add hq1
       refine st_pr F37 (PR.op (ex_not rfl) <| PR.nil) fun q38 F38 => ?_
       refine st_end <| then_n ?_
       refine wp_if F38 rfl (fun hb5 => ?_) (fun hb5 => ?_)
       ·replace H := ite_t hb5 H
        refine wp_reg ?_
        refine st_pr F38 (PR.op (ex_move rfl) <| PR.op (ex_move rfl) <| PR.op (ex_add rfl rfl) <| PR.nil) fun q39 F39 => ?_
        refine st_bslice (parts := [(0, .tmp 59)]) (Flat.int .i64) ([wr (x1 + 1)] : List Int) F39 s17 Fx.sl57 rfl (by decide) rfl rfl rfl (by simp [Value.cells]) rfl rfl rfl fun v14 w12 q40 F40 s18 => ?_
        obtain ⟨x13, hx13, H⟩ := bind_ok H
        have s19 := s18.f2
        obtain ⟨_, hr_⟩ := (s19.own_rd (.tail _ <| .head _))
        refine st_append_rd (Flat.int .i64) F40 s19 Fx.sl57 rfl rfl rfl rfl hr_ rfl rfl hx13 rfl fun v15 w13 q41 F41 s20 => ?_
        have s4581' := s20.f1.drop
        refine st_pr F41 (PR.op (ex_asg rfl) <| PR.nil) fun q42 F42 => ?_
        refine st_end ?_
        refine blk_n ?_
        obtain rfl := some_ok H
        refine then_n ?_
        exact ⟨_, rfl, v5, v15, F42.sub ⟨rfl, rfl, rfl, trivial⟩, s4581'.f1⟩
       ·replace H := ite_f hb5 H
        refine wp_skip ?_
        refine blk_n ?_
        obtain rfl := some_ok H
        refine then_n ?_
        exact ⟨_, rfl, v5, v7, F38.sub ⟨rfl, rfl, rfl, trivial⟩, s17⟩
    ·replace H := ite_f hb1 H
     refine wp_exit <| then_x <| then_x <| blk_hit ?_
     obtain rfl := some_ok H
     obtain rfl := hr _ rfl
     refine then_n ?_
     exact ⟨v5, F13.sub ⟨rfl, rfl, trivial⟩, s7.f1.drop⟩
  ·intro q43 w14 hJ
   obtain ⟨v4, F43, s21⟩ := hJ
   have H := R1
   clear R1 H1
   refine then_n <| wp_seq <| wp_reg ?_
   obtain ⟨x14, hx14, H⟩ := bind_ok H
   refine st_pr F43 (PR.op (ex_move rfl) <| PR.op (ex_move rfl) <| PR.nil) fun q44 F44 => ?_
   refine st_call (args := [.tmp 62, .tmp 63]) F44 Fx.fn103 rfl (provisoref19_left_c (a0 := a0) (a1 := o2)  (hr0.pass0 s21) (s21.rd0 (.head _)) hx14) rfl fun v16 w15 q45 hS2 F45 => ?_
   obtain ⟨_, rfl, hq2⟩ := hS2
   have s22 := s21.add hq2
   refine st_pr F45 (PR.op (ex_asg rfl) <| PR.nil) fun q46 F46 => ?_
   refine st_end <| then_n ?_
   obtain rfl := some_ok H
   refine wp_ret ?_
   refine ret_gen (rs := [.tmp 2]) (vs := [v16]) F46 (by rfl) ⟨_, _, rfl, RV.tmp rfl, rfl⟩ ⟨_, rfl, ⟨v16, rfl, s22.f1.drop⟩⟩
-- The walk of proviso/provisoref19.threads.
theorem provisoref19_threads_c {w : World} {v0 : Value} {a0 : List S_provisoref19_ins} {r : (List S_provisoref19_ins)} (hr0 : Rd T_provisoref19_ins w [] v0 a0) (H : provisoref19_threads a0 = some r) :
  Calls Try.prog 78 #[v0] w (Ret fun u_ w_ => ∃ u0 : Value, u_ = u0 ∧ SL w [] w_ [Sl T_provisoref19_ins u0 r]) := by
 have s0 : SL w [] w [] := SL.init0 w
 refine call_enter Try.func78 rfl Try.ntmps78 (Nat.le_of_ble_eq_true rfl) (args := [v0]) fun q0 F0 => ?_
 unfold provisoref19_threads at H
 refine wp_seq <| wp_reg ?_
 refine st_pr F0 (PR.op (ex_asg rfl) <| PR.nil) fun q3 F4 => ?_
 refine st_end <| then_n <| wp_seq <| wp_reg ?_
 refine st_pr F4 (PR.op (ex_asg rfl) <| PR.nil) fun q7 F8 => ?_
 refine st_end <| then_n <| wp_seq <| wp_seq <| wp_reg ?_
 refine st_pr F8 (PR.op (ex_move rfl) <| PR.op (ex_len rfl Try.underlying126 (formL (rdL hr0 s0))) <| PR.op (ex_move rfl) <| PR.nil) fun q1 F1 => ?_
 refine st_end <| then_n ?_
 obtain ⟨o0, H0, R0⟩ := bind_ok H
 clear H
 refine wp_cutn (fun a w_ => ∃ v1 : Value, Fr a 72 [(3, v1)] ∧ SL w [] w_ [Sl T_provisoref19_ins v1 o0]) ?_ ?_
 ·have H := H0
  refine wp_block ?_
  refine wp_lp (provisoref19_threads_b1 a0) (fun s1 a w_ => ∃ v2 : Value, Fr a 72 [(0, v0), (3, v2), (8, v0), (9, .int .i64 (a0.length : Int)), (10, .int .i64 s1.2)] ∧ SL w [] w_ [Sl T_provisoref19_ins v2 s1.1]) H ?_ ?_
  ·exact ⟨(.slice none 0 0), F1.sub ⟨rfl, rfl, rfl, rfl, rfl, trivial⟩, (SL.nilSl (T := T_provisoref19_ins) s0)⟩
  ·intro s1 q2 w0 hI0 o1 H hr
   obtain ⟨v2, F2, s2⟩ := hI0
   replace H : provisoref19_threads_b1 a0 s1 = some o1 := H
   unfold provisoref19_threads_b1 at H
   refine wp_seq <| wp_reg ?_
   refine st_pr F2 (PR.op (ex_lt rfl rfl) <| PR.nil) fun q4 F3 => ?_
   refine st_end <| then_n <| wp_seq ?_
   refine wp_if F3 rfl (fun hb0 => ?_) (fun hb0 => ?_)
   ·replace H := ite_t hb0 H
    refine wp_skip <| then_n <| wp_seq <| wp_block <| wp_seq <| wp_reg ?_
    obtain ⟨x0, hx0, H⟩ := bind_ok H
    obtain ⟨a1, hi0, hc0⟩ := idxL F_provisoref19_ins (rdL hr0 s2) Fx.sl126 rfl hx0
    refine st_pr F3 (PR.op (ex_move rfl) <| PR.op (hi0 _ _ _ _ _ _ _ _ _ _ rfl rfl) <| PR.op (ex_ldagg Fx.agg156 rfl hc0 rfl) <| PR.nil) fun q5 F5 => ?_
    refine st_alloc F5 s2 Fx.zero156 rfl rfl fun g0 w1 q6 F6 s3 => ?_
    refine st_pr F6 (PR.op (ex_asg rfl) <| PR.nil) fun q8 F7 => ?_
    have s4 := s3
    refine st_storea F7 s4 rfl rfl Fx.sz156 (one_cons rfl (one_cons rfl (one_cons rfl (one_cons rfl one_nil)))) (Nat.le_of_ble_eq_true rfl) fun w2 q9 F9 s5 => ?_
    replace s5 : SL w [] w2 [Blk g0 156 [.int .u8 (x0.op.toNat : Int), .int .i64 x0.a, .int .i64 x0.b, .int .i64 x0.to], Sl T_provisoref19_ins v2 s1.1] := s5
    refine st_end <| then_n <| wp_seq ?_
    obtain ⟨o2, H1, R1⟩ := bind_ok H
    clear H
    refine wp_cutn (fun a w_ => Fr a 72 [(0, v0), (3, v2), (5, .pointer (some ⟨g0, 0, none⟩)), (8, v0), (9, .int .i64 (a0.length : Int)), (10, .int .i64 s1.2)] ∧ SL w [] w_ [Blk g0 156 [.int .u8 (x0.op.toNat : Int), .int .i64 x0.a, .int .i64 x0.b, .int .i64 o2], Sl T_provisoref19_ins v2 s1.1]) ?_ ?_
    ·have H := H1
     refine wp_seq <| wp_reg ?_
     refine st_pr F9 (PR.op (ex_fab Fx.fa156_3 rfl rfl) <| PR.op (ex_ld Fx.nag3 rfl (s5.blk_cell (.head _) rfl)) <| PR.op (ex_ge rfl rfl) <| PR.op (ex_move rfl) <| PR.nil) fun q10 F10 => ?_
     refine bool_split (decide (x0.to ≥ 0)) (fun hb1 => ?_) (fun hb1 => ?_)
     ·replace H := ite_t hb1 H
      refine st_gop F10 rfl rfl (look_b rfl hb1) (ex_fab Fx.fa156_3 rfl rfl) rfl rfl fun q11 F11 => ?_
      refine st_gop F11 rfl rfl (look_b rfl hb1) (ex_ld Fx.nag3 rfl (s5.blk_cell (.head _) rfl)) rfl rfl fun q12 F12 => ?_
      refine st_gop F12 rfl rfl (look_b rfl hb1) (ex_move rfl) rfl rfl fun q13 F13 => ?_
      refine st_gop F13 rfl rfl (look_b rfl hb1) (ex_ne rfl rfl) rfl rfl fun q14 F14 => ?_
      refine st_pr F14 (PR.op (ex_pick_t (ev_b rfl hb1) rfl) <| PR.op (ex_move rfl) <| PR.nil) fun q15 F15 => ?_
      refine bool_split (x0.to != s1.2) (fun hb2 => ?_) (fun hb2 => ?_)
      ·replace H := ite_t hb2 H
       refine st_gop F15 rfl rfl (look_b rfl hb2) (ex_move rfl) rfl rfl fun q16 F16 => ?_
       refine st_gop F16 rfl rfl (look_b rfl hb2) (ex_fab Fx.fa156_3 rfl rfl) rfl rfl fun q17 F17 => ?_
       refine st_gop F17 rfl rfl (look_b rfl hb2) (ex_ld Fx.nag3 rfl (s5.blk_cell (.head _) rfl)) rfl rfl fun q18 F18 => ?_
       obtain ⟨x1, hx1, H⟩ := bind_ok H
       obtain ⟨a2, hi1, hc1⟩ := idxL F_provisoref19_ins (rdL hr0 s5) Fx.sl126 rfl hx1
       refine st_gop F18 rfl rfl (look_b rfl hb2) (hi1 _ _ _ _ _ _ _ _ _ _ rfl rfl) rfl rfl fun q19 F19 => ?_
       refine st_gop F19 rfl rfl (look_b rfl hb2) (ex_fa Fx.fa156_0 rfl) rfl rfl fun q20 F20 => ?_
       refine st_gop F20 rfl rfl (look_b rfl hb2) (ex_ld Fx.nag5 rfl (Cells.at_ hc1 (o := 0) rfl)) rfl rfl fun q21 F21 => ?_
       refine st_gop F21 rfl rfl (look_b rfl hb2) (ex_eq rfl rfl) rfl rfl fun q22 F22 => ?_
       refine st_pr F22 (PR.op (ex_pick_t (ev_b rfl hb2) rfl) <| PR.nil) fun q23 F23 => ?_
       refine st_end <| then_n ?_
       refine wp_if F23 rfl (fun hb3 => ?_) (fun hb3 => ?_)
       ·replace H := ite_t hb3 H
        refine wp_seq <| wp_reg ?_
        obtain ⟨x2, hx2, H⟩ := bind_ok H
        refine st_pr F23 (PR.op (ex_move rfl) <| PR.op (ex_len rfl Try.underlying126 (formL (rdL hr0 s5))) <| PR.nil) fun q24 F24 => ?_
        refine st_make Flat.bool false F24 s5 Fx.sl93 rfl rfl Fx.zero4 rfl rfl rfl hx2 rfl fun v3 w3 q25 F25 s6 => ?_
        refine st_pr F25 (PR.op (ex_asg rfl) <| PR.nil) fun q26 F26 => ?_
        refine st_end <| then_n <| wp_seq <| wp_reg ?_
        refine st_pr F26 (PR.op (ex_fab Fx.fa156_3 rfl rfl) <| PR.op (ex_ld Fx.nag3 rfl (s6.blk_cell (.tail _ <| .head _) rfl)) <| PR.op (ex_asg rfl) <| PR.nil) fun q27 F27 => ?_
        refine st_end <| then_n <| wp_seq ?_
        obtain ⟨o3, H2, R2⟩ := bind_ok H
        clear H
        refine wp_cutn (fun a w_ => ∃ v4 : Value, Fr a 72 [(0, v0), (3, v2), (5, .pointer (some ⟨g0, 0, none⟩)), (6, v4), (7, .int .i64 o3.2), (8, v0), (9, .int .i64 (a0.length : Int)), (10, .int .i64 s1.2), (19, .pointer (some ⟨g0, 3, none⟩)), (20, .int .i64 x0.to), (21, .int .i64 s1.2), (22, .bool (x0.to != s1.2)), (25, v0), (26, .pointer (some ⟨g0, 3, none⟩)), (27, .int .i64 x0.to), (30, .int .u8 (x1.op.toNat : Int)), (31, .bool ((x1.op.toNat : Int) == 19))] ∧ SL w [] w_ [Blk g0 156 [.int .u8 (x0.op.toNat : Int), .int .i64 x0.a, .int .i64 x0.b, .int .i64 x0.to], Sl T_provisoref19_ins v2 s1.1, Sl Ty.bool v4 o3.1]) ?_ ?_
        ·have H := H2
         refine wp_block ?_
         refine wp_lp (provisoref19_threads_b0 a0) (fun s7 a w_ => ∃ v5 : Value, Fr a 72 [(0, v0), (3, v2), (5, .pointer (some ⟨g0, 0, none⟩)), (6, v5), (7, .int .i64 s7.2), (8, v0), (9, .int .i64 (a0.length : Int)), (10, .int .i64 s1.2), (19, .pointer (some ⟨g0, 3, none⟩)), (20, .int .i64 x0.to), (21, .int .i64 s1.2), (22, .bool (x0.to != s1.2)), (25, v0), (26, .pointer (some ⟨g0, 3, none⟩)), (27, .int .i64 x0.to), (30, .int .u8 (x1.op.toNat : Int)), (31, .bool ((x1.op.toNat : Int) == 19))] ∧ SL w [] w_ [Blk g0 156 [.int .u8 (x0.op.toNat : Int), .int .i64 x0.a, .int .i64 x0.b, .int .i64 x0.to], Sl T_provisoref19_ins v2 s1.1, Sl Ty.bool v5 s7.1]) H ?_ ?_
         ·exact ⟨v3, F27.sub ⟨rfl, rfl, rfl, rfl, rfl, rfl, rfl, rfl, rfl, rfl, rfl, rfl, rfl, rfl, rfl, rfl, rfl, trivial⟩, s6.f2.f2⟩
         ·intro s7 q28 w4 hI1 o4 H hr
          obtain ⟨v5, F28, s8⟩ := hI1
          replace H : provisoref19_threads_b0 a0 s7 = some o4 := H
          unfold provisoref19_threads_b0 at H
          refine wp_seq <| wp_seq <| wp_reg ?_
          obtain ⟨x3, hx3, H⟩ := bind_ok H
          obtain ⟨a3, hi2, hc2⟩ := idxL F_provisoref19_ins (rdL hr0 s8) Fx.sl126 rfl hx3
          refine st_pr F28 (PR.op (ex_move rfl) <| PR.op (ex_move rfl) <| PR.op (hi2 _ _ _ _ _ _ _ _ _ _ rfl rfl) <| PR.op (ex_fa Fx.fa156_0 rfl) <| PR.op (ex_ld Fx.nag5 rfl (Cells.at_ hc2 (o := 0) rfl)) <| PR.op (ex_eq rfl rfl) <| PR.op (ex_move rfl) <| PR.nil) fun q29 F29 => ?_
          refine bool_split ((x3.op.toNat : Int) == 19) (fun hb4 => ?_) (fun hb4 => ?_)
          ·replace H := ite_t hb4 H
           refine st_gop F29 rfl rfl (look_b rfl hb4) (ex_move rfl) rfl rfl fun q30 F30 => ?_
           refine st_gop F30 rfl rfl (look_b rfl hb4) (ex_move rfl) rfl rfl fun q31 F31 => ?_
           obtain ⟨x4, hx4, H⟩ := bind_ok H
           obtain ⟨a4, hi3, he0⟩ := own_idx Flat.bool s8 (.tail _ <| .tail _ <| .head _) Fx.sl93 rfl hx4
           refine st_gop F31 rfl rfl (look_b rfl hb4) (hi3 _ _ _ _ _ _ _ _ _ _ rfl rfl) rfl rfl fun q32 F32 => ?_
           refine st_gop F32 rfl rfl (look_b rfl hb4) (ex_ld Fx.nag4 rfl (Cells.at_ (SL.elcells Flat.bool s8 (.tail _ <| .tail _ <| .head _) he0 hx4) (o := 0) rfl)) rfl rfl fun q33 F33 => ?_
           refine st_gop F33 rfl rfl (look_b rfl hb4) (ex_not rfl) rfl rfl fun q34 F34 => ?_
           refine st_pr F34 (PR.op (ex_pick_t (ev_b rfl hb4) rfl) <| PR.nil) fun q35 F35 => ?_
           refine st_end <| then_n ?_
           refine wp_if F35 rfl (fun hb5 => ?_) (fun hb5 => ?_)
           ·replace H := ite_t hb5 H
            refine wp_skip <| then_n <| wp_block <| wp_seq <| wp_reg ?_
            obtain ⟨x5, hx5, H⟩ := bind_ok H
            obtain ⟨a5, hi4, he1⟩ := own_idx Flat.bool s8 (.tail _ <| .tail _ <| .head _) Fx.sl93 rfl hx5
            refine st_pr F35 (PR.op (ex_move rfl) <| PR.op (ex_move rfl) <| PR.op (hi4 _ _ _ _ _ _ _ _ _ _ rfl rfl) <| PR.nil) fun q36 F36 => ?_
            refine st_setel (y' := true) Flat.bool F36 s8.f2 he1 hx5 rfl rfl (by rfl) Fx.sz4 fun w5 q37 F37 s9 => ?_
            refine st_end <| then_n <| wp_reg ?_
            obtain ⟨x6, hx6, H⟩ := bind_ok H
            obtain ⟨a6, hi5, hc3⟩ := idxL F_provisoref19_ins (rdL hr0 s9) Fx.sl126 rfl hx6
            refine st_pr F37 (PR.op (ex_move rfl) <| PR.op (ex_move rfl) <| PR.op (hi5 _ _ _ _ _ _ _ _ _ _ rfl rfl) <| PR.op (ex_fa Fx.fa156_3 rfl) <| PR.op (ex_ld Fx.nag3 rfl (Cells.at_ hc3 (o := 3) rfl)) <| PR.op (ex_asg rfl) <| PR.nil) fun q38 F38 => ?_
            refine st_end ?_
            refine blk_n ?_
            obtain rfl := some_ok H
            refine then_n ?_
            exact ⟨_, rfl, v5, F38.sub ⟨rfl, rfl, rfl, rfl, rfl, rfl, rfl, rfl, rfl, rfl, rfl, rfl, rfl, rfl, rfl, rfl, rfl, trivial⟩, s9.f2.f2⟩
           ·replace H := ite_f hb5 H
            refine wp_exit <| then_x <| then_x <| blk_hit ?_
            obtain rfl := some_ok H
            obtain rfl := hr _ rfl
            refine then_n ?_
            exact ⟨v5, F35.sub ⟨rfl, rfl, rfl, rfl, rfl, rfl, rfl, rfl, rfl, rfl, rfl, rfl, rfl, rfl, rfl, rfl, rfl, trivial⟩, s8⟩
          ·replace H := ite_f hb4 H
           refine st_gskip F29 rfl rfl (look_b rfl hb4) Bool.noConfusion rfl rfl fun q39 F39 => ?_
           refine st_gskip F39 rfl rfl (look_b rfl hb4) Bool.noConfusion rfl rfl fun q40 F40 => ?_
           refine st_gskip F40 rfl rfl (look_b rfl hb4) Bool.noConfusion rfl rfl fun q41 F41 => ?_
           refine st_gskip F41 rfl rfl (look_b rfl hb4) Bool.noConfusion rfl rfl fun q42 F42 => ?_
           refine st_gskip F42 rfl rfl (look_b rfl hb4) Bool.noConfusion rfl rfl fun q43 F43 => ?_
           refine st_pr F43 (PR.op (ex_pick_f (ev_b rfl hb4) rfl) <| PR.nil) fun q44 F44 => ?_
           refine st_end <| then_n ?_
           refine wp_if_f F44 rfl ?_
           refine wp_exit <| then_x <| then_x <| blk_hit ?_
           obtain rfl := some_ok H
           obtain rfl := hr _ rfl
           refine then_n ?_
           exact ⟨v5, F44.sub ⟨rfl, rfl, rfl, rfl, rfl, rfl, rfl, rfl, rfl, rfl, rfl, rfl, rfl, rfl, rfl, rfl, rfl, trivial⟩, s8⟩
        ·intro q45 w6 hJ
         obtain ⟨v4, F45, s10⟩ := hJ
         have H := R2
         clear R2 H2
         refine then_n <| wp_seq <| wp_reg ?_
         obtain ⟨x7, hx7, H⟩ := bind_ok H
         obtain ⟨a7, hi6, he2⟩ := own_idx Flat.bool s10 (.tail _ <| .tail _ <| .head _) Fx.sl93 rfl hx7
         refine st_pr F45 (PR.op (ex_move rfl) <| PR.op (ex_move rfl) <| PR.op (hi6 _ _ _ _ _ _ _ _ _ _ rfl rfl) <| PR.op (ex_ld Fx.nag4 rfl (Cells.at_ (SL.elcells Flat.bool s10 (.tail _ <| .tail _ <| .head _) he2 hx7) (o := 0) rfl)) <| PR.op (ex_not rfl) <| PR.nil) fun q46 F46 => ?_
         refine st_end <| then_n ?_
         refine wp_if F46 rfl (fun hb6 => ?_) (fun hb6 => ?_)
         ·replace H := ite_t hb6 H
          refine wp_reg ?_
          refine st_pr F46 (PR.op (ex_move rfl) <| PR.op (ex_fab Fx.fa156_3 rfl rfl) <| PR.nil) fun q47 F47 => ?_
          have s11 := s10
          refine st_store F47 s11 rfl rfl Fx.sz3 rfl rfl rfl fun w7 q48 F48 s12 => ?_
          replace s12 : SL w [] w7 [Blk g0 156 [.int .u8 (x0.op.toNat : Int), .int .i64 x0.a, .int .i64 x0.b, .int .i64 o3.2], Sl T_provisoref19_ins v2 s1.1, Sl Ty.bool v4 o3.1] := s12
          refine st_end ?_
          obtain rfl := some_ok H
          refine then_n ?_
          exact ⟨F48.sub ⟨rfl, rfl, rfl, rfl, rfl, rfl, trivial⟩, s12.f2.drop⟩
         ·replace H := ite_f hb6 H
          refine wp_skip ?_
          obtain rfl := some_ok H
          refine then_n ?_
          exact ⟨F46.sub ⟨rfl, rfl, rfl, rfl, rfl, rfl, trivial⟩, s10.f2.drop⟩
       ·replace H := ite_f hb3 H
        refine wp_skip ?_
        obtain rfl := some_ok H
        refine then_n ?_
        exact ⟨F23.sub ⟨rfl, rfl, rfl, rfl, rfl, rfl, trivial⟩, s5⟩
      ·replace H := ite_f hb2 H
       refine st_gskip F15 rfl rfl (look_b rfl hb2) Bool.noConfusion rfl rfl fun q49 F49 => ?_
       refine st_gskip F49 rfl rfl (look_b rfl hb2) Bool.noConfusion rfl rfl fun q50 F50 => ?_
       refine st_gskip F50 rfl rfl (look_b rfl hb2) Bool.noConfusion rfl rfl fun q51 F51 => ?_
       refine st_gskip F51 rfl rfl (look_b rfl hb2) Bool.noConfusion rfl rfl fun q52 F52 => ?_
       refine st_gskip F52 rfl rfl (look_b rfl hb2) Bool.noConfusion rfl rfl fun q53 F53 => ?_
       refine st_gskip F53 rfl rfl (look_b rfl hb2) Bool.noConfusion rfl rfl fun q54 F54 => ?_
       refine st_gskip F54 rfl rfl (look_b rfl hb2) Bool.noConfusion rfl rfl fun q55 F55 => ?_
       refine st_pr F55 (PR.op (ex_pick_f (ev_b rfl hb2) rfl) <| PR.nil) fun q56 F56 => ?_
       refine st_end <| then_n ?_
       refine wp_if_f F56 rfl ?_
       refine wp_skip ?_
       obtain rfl := some_ok H
       refine then_n ?_
       exact ⟨F56.sub ⟨rfl, rfl, rfl, rfl, rfl, rfl, trivial⟩, s5⟩
     ·replace H := ite_f hb1 H
      refine st_gskip F10 rfl rfl (look_b rfl hb1) Bool.noConfusion rfl rfl fun q57 F57 => ?_
      refine st_gskip F57 rfl rfl (look_b rfl hb1) Bool.noConfusion rfl rfl fun q58 F58 => ?_
      refine st_gskip F58 rfl rfl (look_b rfl hb1) Bool.noConfusion rfl rfl fun q59 F59 => ?_
      refine st_gskip F59 rfl rfl (look_b rfl hb1) Bool.noConfusion rfl rfl fun q60 F60 => ?_
      refine st_pr F60 (PR.op (ex_pick_f (ev_b rfl hb1) rfl) <| PR.op (ex_move rfl) <| PR.nil) fun q61 F61 => ?_
      refine st_gskip F61 rfl rfl rfl Bool.noConfusion rfl rfl fun q62 F62 => ?_
      refine st_gskip F62 rfl rfl rfl Bool.noConfusion rfl rfl fun q63 F63 => ?_
      refine st_gskip F63 rfl rfl rfl Bool.noConfusion rfl rfl fun q64 F64 => ?_
      refine st_gskip F64 rfl rfl rfl Bool.noConfusion rfl rfl fun q65 F65 => ?_
      refine st_gskip F65 rfl rfl rfl Bool.noConfusion rfl rfl fun q66 F66 => ?_
      refine st_gskip F66 rfl rfl rfl Bool.noConfusion rfl rfl fun q67 F67 => ?_
      refine st_gskip F67 rfl rfl rfl Bool.noConfusion rfl rfl fun q68 F68 => ?_
      refine st_pr F68 (PR.op (ex_pick_f rfl rfl) <| PR.nil) fun q69 F69 => ?_
      refine st_end <| then_n ?_
      refine wp_if_f F69 rfl ?_
      refine wp_skip ?_
      obtain rfl := some_ok H
      refine then_n ?_
      exact ⟨F69.sub ⟨rfl, rfl, rfl, rfl, rfl, rfl, trivial⟩, s5⟩
    ·intro q70 w8 hJ
     obtain ⟨F70, s13⟩ := hJ
     have H := R1
     clear R1 H1
     refine then_n <| wp_reg ?_
     refine st_pr F70 (PR.op (ex_move rfl) <| PR.op (ex_ldagg Fx.agg156 rfl (s13.blk_cells (.head _) (o := 0) (ds := [.int .u8 (x0.op.toNat : Int), .int .i64 x0.a, .int .i64 x0.b, .int .i64 o2]) (fun j u hu => by rw [Nat.zero_add]; exact hu)) rfl) <| PR.nil) fun q71 F71 => ?_
     refine st_bslice (parts := [(0, .tmp 67)]) F_provisoref19_ins ([(⟨x0.op, x0.a, x0.b, o2⟩ : S_provisoref19_ins)] : List S_provisoref19_ins) F71 s13 Fx.sl126 rfl (by decide) rfl rfl rfl (by simp [Value.cells]) rfl rfl rfl fun v6 w9 q72 F72 s14 => ?_
     obtain ⟨x8, hx8, H⟩ := bind_ok H
     have s15 := s14.f2
     obtain ⟨_, hr_⟩ := (s15.own_rd (.tail _ <| .head _))
     refine st_append_rd F_provisoref19_ins F72 s15 Fx.sl126 rfl rfl rfl rfl hr_ rfl rfl hx8 rfl fun v7 w10 q73 F73 s16 => ?_
     have s213547' := s16.f1.drop
     refine st_pr F73 (PR.op (ex_asg rfl) <| PR.nil) fun q74 F74 => ?_
     refine st_end ?_
     refine blk_n ?_
     refine then_n <| wp_reg ?_
     refine st_pr F74 (PR.op (ex_add rfl rfl) <| PR.op (ex_move rfl) <| PR.nil) fun q75 F75 => ?_
     refine st_end ?_
     obtain rfl := some_ok H
     refine then_n ?_
     exact ⟨_, rfl, v7, F75.sub ⟨rfl, rfl, rfl, rfl, rfl, trivial⟩, s213547'.f1.drop⟩
   ·replace H := ite_f hb0 H
    refine wp_exit <| then_x <| then_x <| blk_hit ?_
    obtain rfl := some_ok H
    obtain rfl := hr _ rfl
    refine then_n ?_
    exact ⟨v2, F3.sub ⟨rfl, trivial⟩, s2⟩
 ·intro q76 w11 hJ
  obtain ⟨v1, F76, s17⟩ := hJ
  have H := R0
  clear R0 H0
  refine then_n <| wp_seq <| wp_reg ?_
  refine st_pr F76 (PR.op (ex_move rfl) <| PR.op (ex_asg rfl) <| PR.nil) fun q77 F77 => ?_
  refine st_end <| then_n ?_
  obtain rfl := some_ok H
  refine wp_ret ?_
  refine ret_gen (rs := [.tmp 2]) (vs := [v1]) F77 (by rfl) ⟨_, _, rfl, RV.tmp rfl, rfl⟩ ⟨_, rfl, ⟨v1, rfl, s17⟩⟩
-- The walk of proviso/provisoref19.same.
theorem provisoref19_same_c {w : World} {v0 v1 : Value} {a0 : List S_provisoref19_ins} {a1 : List S_provisoref19_ins} {r : Bool} (hr0 : Rd T_provisoref19_ins w [] v0 a0) (hr1 : Rd T_provisoref19_ins w [] v1 a1) (H : provisoref19_same a0 a1 = some r) :
  Calls Try.prog 79 #[v0, v1] w (Ret fun u_ w_ => u_ = .bool r ∧ SL w [] w_ []) := by
 have s0 : SL w [] w [] := SL.init0 w
 refine call_enter Try.func79 rfl Try.ntmps79 (Nat.le_of_ble_eq_true rfl) (args := [v0, v1]) fun q0 F0 => ?_
 unfold provisoref19_same at H
 refine wp_seq <| wp_reg ?_
 refine st_pr F0 (PR.op (ex_asg rfl) <| PR.nil) fun q3 F4 => ?_
 refine st_end <| then_n <| wp_seq <| wp_seq <| wp_reg ?_
 refine st_pr F4 (PR.op (ex_move rfl) <| PR.op (ex_len rfl Try.underlying126 (formL (rdL hr0 s0))) <| PR.op (ex_move rfl) <| PR.op (ex_len rfl Try.underlying126 (formL (rdL hr1 s0))) <| PR.op (ex_ne rfl rfl) <| PR.nil) fun q16 F17 => ?_
 refine st_end <| then_n ?_
 refine wp_if F17 rfl (fun hb18 => ?_) (fun hb18 => ?_)
 ·replace H := ite_t hb18 H
  refine wp_seq <| wp_reg ?_
  refine st_pr F17 (PR.op (ex_asg rfl) <| PR.nil) fun q21 F22 => ?_
  refine st_end <| then_n ?_
  obtain rfl := some_ok H
  refine wp_ret ?_
  refine then_r ?_
  refine ret_gen (rs := [.tmp 4]) (vs := [.bool false]) F22 (by rfl) ⟨_, _, rfl, RV.tmp rfl, rfl⟩ ⟨_, rfl, ⟨rfl, s0⟩⟩
 ·replace H := ite_f hb18 H
  refine wp_skip <| then_n <| wp_seq <| wp_seq <| wp_reg ?_
  refine st_pr F17 (PR.op (ex_move rfl) <| PR.op (ex_len rfl Try.underlying126 (formL (rdL hr0 s0))) <| PR.op (ex_move rfl) <| PR.nil) fun q1 F1 => ?_
  refine st_end <| then_n ?_
  obtain ⟨o0, H0, R0⟩ := bind_ok H
  clear H
  refine wp_cutn (fun a w_ => ∃ p0 : Unit, o0 = .inr (p0) ∧ Fr a 26 [] ∧ SL w [] w_ []) ?_ ?_
  ·have H := H0
   refine wp_block ?_
   refine wp_lp (provisoref19_same_b0 a0 a1) (fun s1 a w_ => Fr a 26 [(0, v0), (1, v1), (12, .int .i64 (a0.length : Int)), (13, .int .i64 s1)] ∧ SL w [] w_ []) H ?_ ?_
   ·exact ⟨F1.sub ⟨rfl, rfl, rfl, rfl, trivial⟩, s0⟩
   ·intro s1 q2 w0 hI0 o1 H hr
    obtain ⟨F2, s2⟩ := hI0
    replace H : provisoref19_same_b0 a0 a1 s1 = some o1 := H
    unfold provisoref19_same_b0 at H
    refine wp_seq <| wp_reg ?_
    refine st_pr F2 (PR.op (ex_lt rfl rfl) <| PR.nil) fun q4 F3 => ?_
    refine st_end <| then_n <| wp_seq ?_
    refine wp_if F3 rfl (fun hb0 => ?_) (fun hb0 => ?_)
    ·replace H := ite_t hb0 H
     refine wp_skip <| then_n <| wp_seq <| wp_block <| wp_seq <| wp_reg ?_
     refine st_pr F3 (PR.op (ex_move rfl) <| PR.op (ex_asg rfl) <| PR.nil) fun q5 F5 => ?_
     refine st_end <| then_n <| wp_seq ?_
     obtain ⟨x0, hx0, H⟩ := bind_ok H
     obtain ⟨a2, hi0, hc0⟩ := idxC (C := fun w_ => SL w [] w_ []) F_provisoref19_ins (fun _ hC => (rdL hr0 hC)) s2 Fx.sl126 rfl hx0
     obtain ⟨x1, hx1, H⟩ := bind_ok H
     obtain ⟨a3, hi1, hc1⟩ := idxC (C := fun w_ => SL w [] w_ []) F_provisoref19_ins (fun _ hC => (rdL hr1 hC)) s2 Fx.sl126 rfl hx1
     refine wp_regq (fun w_ => SL w [] w_ []) Fx.mixed (by kernel_rfl) s2.drew F5 (QR.op (fun _ hC => ex_move rfl) <| QR.op (fun _ hC => ex_move rfl) <| QR.op (fun _ hC => hi0 _ _ _ _ _ _ _ _ _ _ rfl rfl) <| QR.op (fun _ hC => ex_ldagg Fx.agg156 rfl (hc0 _ hC) rfl) <| QR.op (fun _ hC => ex_move rfl) <| QR.op (fun _ hC => ex_move rfl) <| QR.op (fun _ hC => hi1 _ _ _ _ _ _ _ _ _ _ rfl rfl) <| QR.op (fun _ hC => ex_ldagg Fx.agg156 rfl (hc1 _ hC) rfl) <| QR.op (fun _ hC => ex_stne (xs := [.int .u8 (x0.op.toNat : Int), .int .i64 x0.a, .int .i64 x0.b, .int .i64 x0.to]) (ys := [.int .u8 (x1.op.toNat : Int), .int .i64 x1.a, .int .i64 x1.b, .int .i64 x1.to]) Fx.st156 (by decide) rfl rfl (eqat_st Fx.st156 Fx.fl156 (eqf_cons rfl (part_s Fx.nag5 rfl) (part_s Fx.nag5 rfl) (EqAt.up (j := 1) (eqat_u8 Try.underlying5) (by decide)) (eqf_cons rfl (part_s Fx.nag3 rfl) (part_s Fx.nag3 rfl) (EqAt.up (j := 1) (eqat_int Try.underlying3) (by decide)) (eqf_cons rfl (part_s Fx.nag3 rfl) (part_s Fx.nag3 rfl) (EqAt.up (j := 1) (eqat_int Try.underlying3) (by decide)) (eqf_cons rfl (part_s Fx.nag3 rfl) (part_s Fx.nag3 rfl) (EqAt.up (j := 1) (eqat_int Try.underlying3) (by decide)) eqf_nil)))))) <| QR.nil) fun w1 q6 s3 F6 => ?_
     refine then_n ?_
     refine wp_if F6 rfl (fun hb1 => ?_) (fun hb1 => ?_)
     ·replace H := ite_t hb1 H
      refine wp_seq <| wp_reg ?_
      refine st_pr F6 (PR.op (ex_asg rfl) <| PR.nil) fun q7 F7 => ?_
      refine st_end <| then_n ?_
      obtain rfl := some_ok H
      obtain rfl := hr _ rfl
      replace H := R0
      dsimp only at H
      obtain rfl := some_ok H
      refine wp_ret ?_
      refine blk_r <| then_r <| then_r <| blk_r <| then_r <| then_r ?_
      refine ret_gen (rs := [.tmp 4]) (vs := [.bool false]) F7 (by rfl) ⟨_, _, rfl, RV.tmp rfl, rfl⟩ ⟨_, rfl, ⟨rfl, s3⟩⟩
     ·replace H := ite_f hb1 H
      refine wp_skip ?_
      refine blk_n ?_
      refine then_n <| wp_reg ?_
      refine st_pr F6 (PR.op (ex_add rfl rfl) <| PR.op (ex_move rfl) <| PR.nil) fun q8 F8 => ?_
      refine st_end ?_
      obtain rfl := some_ok H
      refine then_n ?_
      exact ⟨_, rfl, F8.sub ⟨rfl, rfl, rfl, rfl, trivial⟩, s3⟩
    ·replace H := ite_f hb0 H
     refine wp_exit <| then_x <| then_x <| blk_hit ?_
     obtain rfl := some_ok H
     obtain rfl := hr _ rfl
     refine then_n ?_
     exact ⟨_, rfl, F3.sub trivial, s2⟩
  ·intro q9 w2 hJ
   obtain ⟨p0, rfl, F9, s4⟩ := hJ
   have H := R0
   clear R0 H0
   dsimp only at H
   refine then_n <| wp_seq <| wp_reg ?_
   refine st_pr F9 (PR.op (ex_asg rfl) <| PR.nil) fun q10 F10 => ?_
   refine st_end <| then_n ?_
   obtain rfl := some_ok H
   refine wp_ret ?_
   refine ret_gen (rs := [.tmp 4]) (vs := [.bool true]) F10 (by rfl) ⟨_, _, rfl, RV.tmp rfl, rfl⟩ ⟨_, rfl, ⟨rfl, s4⟩⟩
-- The walk of proviso/provisoref04.fits.
theorem provisoref04_fits_c {w : World} {a0 : Int} {a1 : Int} {r : Bool}  (H : provisoref04_fits a0 a1 = some r) :
  Calls Try.prog 119 #[.int .i64 a0, .int .i64 a1] w (Ret fun u_ w_ => u_ = .bool r ∧ SL w [] w_ []) := by
 have s0 : SL w [] w [] := SL.init0 w
 refine call_enter Try.func119 rfl Try.ntmps119 (Nat.le_of_ble_eq_true rfl) (args := [.int .i64 a0, .int .i64 a1]) fun q0 F0 => ?_
 unfold provisoref04_fits at H
 refine wp_seq <| wp_reg ?_
 refine st_pr F0 (PR.op (ex_asg rfl) <| PR.nil) fun q3 F4 => ?_
 refine st_end <| then_n <| wp_seq <| wp_seq <| wp_reg ?_
 refine st_pr F4 (PR.op (ex_move rfl) <| PR.nil) fun q90 F91 => ?_
 refine st_end <| then_n <| wp_block <| wp_seq <| wp_reg ?_
 refine st_pr F91 (PR.op (ex_eq rfl rfl) <| PR.op (ex_asg rfl) <| PR.nil) fun q94 F95 => ?_
 refine st_end <| then_n ?_
 refine wp_if F95 rfl (fun hb96 => ?_) (fun hb96 => ?_)
 ·replace H := ite_t hb96 H
  refine wp_seq <| wp_reg ?_
  refine st_pr F95 (PR.op (ex_move rfl) <| PR.op (ex_eq rfl rfl) <| PR.op (ex_asg rfl) <| PR.nil) fun q99 F1 => ?_
  refine st_end <| then_n ?_
  obtain rfl := some_ok H
  refine wp_ret ?_
  refine blk_r <| then_r ?_
  refine ret_gen (rs := [.tmp 4]) (vs := [.bool (a0 == 0)]) F1 (by rfl) ⟨_, _, rfl, RV.tmp rfl, rfl⟩ ⟨_, rfl, ⟨rfl, s0⟩⟩
 ·replace H := ite_f hb96 H
  refine wp_seq <| wp_reg ?_
  refine st_pr F95 (PR.op (ex_eq rfl rfl) <| PR.op (ex_asg rfl) <| PR.nil) fun q1 F2 => ?_
  refine st_end <| then_n ?_
  refine wp_if F2 rfl (fun hb0 => ?_) (fun hb0 => ?_)
  ·replace H := ite_t hb0 H
   refine wp_seq <| wp_reg ?_
   refine st_pr F2 (PR.op (ex_move rfl) <| PR.op (ex_ge rfl rfl) <| PR.op (ex_move rfl) <| PR.nil) fun q2 F3 => ?_
   refine bool_split (decide (a0 ≥ 0)) (fun hb1 => ?_) (fun hb1 => ?_)
   ·replace H := ite_t hb1 H
    refine st_gop F3 rfl rfl (look_b rfl hb1) (ex_move rfl) rfl rfl fun q4 F5 => ?_
    refine st_gop F5 rfl rfl (look_b rfl hb1) (ex_le rfl rfl) rfl rfl fun q5 F6 => ?_
    refine st_pr F6 (PR.op (ex_pick_t (ev_b rfl hb1) rfl) <| PR.op (ex_asg rfl) <| PR.nil) fun q6 F7 => ?_
    refine st_end <| then_n ?_
    obtain rfl := some_ok H
    refine wp_ret ?_
    refine blk_r <| then_r ?_
    refine ret_gen (rs := [.tmp 4]) (vs := [.bool (decide (a0 ≤ 255))]) F7 (by rfl) ⟨_, _, rfl, RV.tmp rfl, rfl⟩ ⟨_, rfl, ⟨rfl, s0⟩⟩
   ·replace H := ite_f hb1 H
    refine st_gskip F3 rfl rfl (look_b rfl hb1) Bool.noConfusion rfl rfl fun q7 F8 => ?_
    refine st_gskip F8 rfl rfl (look_b rfl hb1) Bool.noConfusion rfl rfl fun q8 F9 => ?_
    refine st_pr F9 (PR.op (ex_pick_f (ev_b rfl hb1) rfl) <| PR.op (ex_asg rfl) <| PR.nil) fun q9 F10 => ?_
    refine st_end <| then_n ?_
    obtain rfl := some_ok H
    refine wp_ret ?_
    refine blk_r <| then_r ?_
    refine ret_gen (rs := [.tmp 4]) (vs := [.bool false]) F10 (by rfl) ⟨_, _, rfl, RV.tmp rfl, rfl⟩ ⟨_, rfl, ⟨rfl, s0⟩⟩
  ·replace H := ite_f hb0 H
   refine wp_seq <| wp_reg ?_
   refine st_pr F2 (PR.op (ex_eq rfl rfl) <| PR.op (ex_asg rfl) <| PR.nil) fun q10 F11 => ?_
   refine st_end <| then_n ?_
   refine wp_if F11 rfl (fun hb2 => ?_) (fun hb2 => ?_)
   ·replace H := ite_t hb2 H
    refine wp_seq <| wp_reg ?_
    refine st_pr F11 (PR.op (ex_move rfl) <| PR.op (ex_ge rfl rfl) <| PR.op (ex_move rfl) <| PR.nil) fun q11 F12 => ?_
    refine bool_split (decide (a0 ≥ 0)) (fun hb3 => ?_) (fun hb3 => ?_)
    ·replace H := ite_t hb3 H
     refine st_gop F12 rfl rfl (look_b rfl hb3) (ex_move rfl) rfl rfl fun q12 F13 => ?_
     refine st_gop F13 rfl rfl (look_b rfl hb3) (ex_le rfl rfl) rfl rfl fun q13 F14 => ?_
     refine st_pr F14 (PR.op (ex_pick_t (ev_b rfl hb3) rfl) <| PR.op (ex_asg rfl) <| PR.nil) fun q14 F15 => ?_
     refine st_end <| then_n ?_
     obtain rfl := some_ok H
     refine wp_ret ?_
     refine blk_r <| then_r ?_
     refine ret_gen (rs := [.tmp 4]) (vs := [.bool (decide (a0 ≤ 65535))]) F15 (by rfl) ⟨_, _, rfl, RV.tmp rfl, rfl⟩ ⟨_, rfl, ⟨rfl, s0⟩⟩
    ·replace H := ite_f hb3 H
     refine st_gskip F12 rfl rfl (look_b rfl hb3) Bool.noConfusion rfl rfl fun q15 F16 => ?_
     refine st_gskip F16 rfl rfl (look_b rfl hb3) Bool.noConfusion rfl rfl fun q16 F17 => ?_
     refine st_pr F17 (PR.op (ex_pick_f (ev_b rfl hb3) rfl) <| PR.op (ex_asg rfl) <| PR.nil) fun q17 F18 => ?_
     refine st_end <| then_n ?_
     obtain rfl := some_ok H
     refine wp_ret ?_
     refine blk_r <| then_r ?_
     refine ret_gen (rs := [.tmp 4]) (vs := [.bool false]) F18 (by rfl) ⟨_, _, rfl, RV.tmp rfl, rfl⟩ ⟨_, rfl, ⟨rfl, s0⟩⟩
   ·replace H := ite_f hb2 H
    refine wp_skip ?_
    refine blk_n ?_
    refine then_n <| wp_seq <| wp_reg ?_
    refine st_pr F11 (PR.op (ex_move rfl) <| PR.op (ex_ge rfl rfl) <| PR.op (ex_move rfl) <| PR.nil) fun q18 F19 => ?_
    refine bool_split (decide (a0 ≥ (-2147483648))) (fun hb4 => ?_) (fun hb4 => ?_)
    ·replace H := ite_t hb4 H
     refine st_gop F19 rfl rfl (look_b rfl hb4) (ex_move rfl) rfl rfl fun q19 F20 => ?_
     refine st_gop F20 rfl rfl (look_b rfl hb4) (ex_le rfl rfl) rfl rfl fun q20 F21 => ?_
     refine st_pr F21 (PR.op (ex_pick_t (ev_b rfl hb4) rfl) <| PR.op (ex_asg rfl) <| PR.nil) fun q21 F22 => ?_
     refine st_end <| then_n ?_
     obtain rfl := some_ok H
     refine wp_ret ?_
     refine ret_gen (rs := [.tmp 4]) (vs := [.bool (decide (a0 ≤ 2147483647))]) F22 (by rfl) ⟨_, _, rfl, RV.tmp rfl, rfl⟩ ⟨_, rfl, ⟨rfl, s0⟩⟩
    ·replace H := ite_f hb4 H
     refine st_gskip F19 rfl rfl (look_b rfl hb4) Bool.noConfusion rfl rfl fun q22 F23 => ?_
     refine st_gskip F23 rfl rfl (look_b rfl hb4) Bool.noConfusion rfl rfl fun q23 F24 => ?_
     refine st_pr F24 (PR.op (ex_pick_f (ev_b rfl hb4) rfl) <| PR.op (ex_asg rfl) <| PR.nil) fun q24 F25 => ?_
     refine st_end <| then_n ?_
     obtain rfl := some_ok H
     refine wp_ret ?_
     refine ret_gen (rs := [.tmp 4]) (vs := [.bool false]) F25 (by rfl) ⟨_, _, rfl, RV.tmp rfl, rfl⟩ ⟨_, rfl, ⟨rfl, s0⟩⟩
-- The walk of proviso/provisoref04.put.
theorem provisoref04_put_c {w : World} {FF : List Nat} {v0 : Value} {a0 : List UInt8} {a1 : Int} {a2 : Int} {r : (List UInt8)} (hst : Star [Sl Ty.u8 v0 a0] w FF)  (H : provisoref04_put a0 a1 a2 = some r) :
  Calls Try.prog 120 #[v0, .int .i64 a1, .int .i64 a2] w (Ret fun u_ w_ => ∃ u0 : Value, u_ = u0 ∧ SL w FF w_ [Sl Ty.u8 u0 r]) := by
 have s0 : SL w FF w [Sl Ty.u8 v0 a0] := SL.init w FF hst
 refine call_enter Try.func120 rfl Try.ntmps120 (Nat.le_of_ble_eq_true rfl) (args := [v0, .int .i64 a1, .int .i64 a2]) fun q0 F0 => ?_
 unfold provisoref04_put at H
 refine wp_seq <| wp_reg ?_
 refine st_pr F0 (PR.op (ex_asg rfl) <| PR.nil) fun q3 F4 => ?_
 refine st_end <| then_n <| wp_seq ?_
 obtain ⟨o26, H27, R28⟩ := bind_ok H
 clear H
 refine wp_cutn (fun a w_ => Fr a 35 [(0, v0), (1, .int .i64 o26), (2, .int .i64 a2)] ∧ SL w FF w_ [Sl Ty.u8 v0 a0]) ?_ ?_
 ·have H := H27
  refine wp_seq <| wp_reg ?_
  refine st_pr F4 (PR.op (ex_move rfl) <| PR.op (ex_lt rfl rfl) <| PR.nil) fun q31 F32 => ?_
  refine st_end <| then_n ?_
  refine wp_if F32 rfl (fun hb33 => ?_) (fun hb33 => ?_)
  ·replace H := ite_t hb33 H
   refine wp_reg ?_
   refine st_pr F32 (PR.op (ex_move rfl) <| PR.op (ex_add rfl rfl) <| PR.op (ex_asg rfl) <| PR.nil) fun q34 F35 => ?_
   refine st_end ?_
   obtain rfl := some_ok H
   refine then_n ?_
   exact ⟨F35.sub ⟨rfl, rfl, rfl, trivial⟩, s0⟩
  ·replace H := ite_f hb33 H
   refine wp_skip ?_
   obtain rfl := some_ok H
   refine then_n ?_
   exact ⟨F32.sub ⟨rfl, rfl, rfl, trivial⟩, s0⟩
 ·intro q38 w39 hJ
  obtain ⟨F36, s37⟩ := hJ
  have H := R28
  clear R28 H27
  refine then_n <| wp_seq <| wp_seq <| wp_reg ?_
  refine st_pr F36 (PR.op (ex_move rfl) <| PR.op (ex_sub rfl rfl) <| PR.op (ex_asg rfl) <| PR.nil) fun q1 F1 => ?_
  refine st_end <| then_n ?_
  obtain ⟨o0, H0, R0⟩ := bind_ok H
  clear H
  refine wp_cutn (fun a w_ => ∃ v1 : Value, Fr a 35 [(0, v1)] ∧ SL w FF w_ [Sl Ty.u8 v1 o0]) ?_ ?_
  ·have H := H0
   refine wp_block ?_
   refine wp_lp (provisoref04_put_b1 o26) (fun s1 a w_ => ∃ v2 : Value, Fr a 35 [(0, v2), (1, .int .i64 o26), (7, .int .i64 s1.2)] ∧ SL w FF w_ [Sl Ty.u8 v2 s1.1]) H ?_ ?_
   ·exact ⟨v0, F1.sub ⟨rfl, rfl, rfl, trivial⟩, s37⟩
   ·intro s1 q2 w0 hI0 o1 H hr
    obtain ⟨v2, F2, s2⟩ := hI0
    replace H : provisoref04_put_b1 o26 s1 = some o1 := H
    unfold provisoref04_put_b1 at H
    refine wp_seq <| wp_seq <| wp_reg ?_
    refine st_pr F2 (PR.op (ex_move rfl) <| PR.op (ex_ge rfl rfl) <| PR.nil) fun q4 F3 => ?_
    refine st_end <| then_n ?_
    refine wp_if F3 rfl (fun hb0 => ?_) (fun hb0 => ?_)
    ·replace H := ite_t hb0 H
     refine wp_skip <| then_n <| wp_seq <| wp_block <| wp_seq <| wp_reg ?_
     refine st_pr F3 (PR.op (ex_move rfl) <| PR.op (ex_asg rfl) <| PR.nil) fun q5 F5 => ?_
     refine st_end <| then_n <| wp_seq <| wp_seq <| wp_reg ?_
     refine st_pr F5 (PR.op (ex_asg rfl) <| PR.nil) fun q6 F6 => ?_
     refine st_end <| then_n ?_
     obtain ⟨o2, H1, R1⟩ := bind_ok H
     clear H
     refine wp_cutn (fun a w_ => Fr a 35 [(0, v2), (1, .int .i64 o26), (7, .int .i64 s1.2), (8, .int .i64 o2)] ∧ SL w FF w_ [Sl Ty.u8 v2 s1.1]) ?_ ?_
     ·have H := H1
      refine wp_block ?_
      refine wp_lp (provisoref04_put_b0 s1) (fun s3 a w_ => Fr a 35 [(0, v2), (1, .int .i64 o26), (7, .int .i64 s1.2), (8, .int .i64 s3.1), (9, .int .i64 s3.2)] ∧ SL w FF w_ [Sl Ty.u8 v2 s1.1]) H ?_ ?_
      ·exact ⟨F6.sub ⟨rfl, rfl, rfl, rfl, rfl, trivial⟩, s2⟩
      ·intro s3 q7 w1 hI1 o3 H hr
       obtain ⟨F7, s4⟩ := hI1
       replace H : provisoref04_put_b0 s1 s3 = some o3 := H
       unfold provisoref04_put_b0 at H
       refine wp_seq <| wp_seq <| wp_reg ?_
       refine st_pr F7 (PR.op (ex_move rfl) <| PR.op (ex_move rfl) <| PR.op (ex_lt rfl rfl) <| PR.nil) fun q8 F8 => ?_
       refine st_end <| then_n ?_
       refine wp_if F8 rfl (fun hb1 => ?_) (fun hb1 => ?_)
       ·replace H := ite_t hb1 H
        refine wp_skip <| then_n <| wp_seq <| wp_block <| wp_reg ?_
        refine st_pr F8 (PR.op (ex_move rfl) <| PR.op (ex_quo rfl rfl rfl) <| PR.op (ex_asg rfl) <| PR.nil) fun q9 F9 => ?_
        refine st_end ?_
        refine blk_n ?_
        refine then_n <| wp_reg ?_
        refine st_pr F9 (PR.op (ex_move rfl) <| PR.op (ex_add rfl rfl) <| PR.op (ex_asg rfl) <| PR.nil) fun q10 F10 => ?_
        refine st_end ?_
        obtain rfl := some_ok H
        refine then_n ?_
        exact ⟨_, rfl, F10.sub ⟨rfl, rfl, rfl, rfl, rfl, trivial⟩, s4⟩
       ·replace H := ite_f hb1 H
        refine wp_exit <| then_x <| then_x <| blk_hit ?_
        obtain rfl := some_ok H
        obtain rfl := hr _ rfl
        refine then_n ?_
        exact ⟨F8.sub ⟨rfl, rfl, rfl, rfl, trivial⟩, s4⟩
     ·intro q11 w2 hJ
      obtain ⟨F11, s5⟩ := hJ
      have H := R1
      clear R1 H1
      refine then_n <| wp_reg ?_
      refine st_pr F11 (PR.op (ex_move rfl) <| PR.op (ex_move rfl) <| PR.op (ex_rem rfl rfl rfl) <| PR.op (ex_cv8 rfl Try.underlying3 Try.underlying5) <| PR.nil) fun q12 F12 => ?_
      refine st_bslice (parts := [(0, .tmp 31)]) Flat.u8 ([toU8 (Int.tmod o2 256)] : List UInt8) F12 s5 Fx.sl22 rfl (by decide) rfl rfl rfl (by simp [Value.cells]) rfl rfl rfl fun v3 w3 q13 F13 s6 => ?_
      obtain ⟨x0, hx0, H⟩ := bind_ok H
      have s7 := s6.f1
      obtain ⟨_, hr_⟩ := (s7.own_rd (.tail _ <| .head _))
      refine st_append_rd Flat.u8 F13 s7 Fx.sl22 rfl rfl rfl rfl hr_ rfl rfl hx0 rfl fun v4 w4 q14 F14 s8 => ?_
      have s24734' := s8.f1.drop
      refine st_pr F14 (PR.op (ex_asg rfl) <| PR.nil) fun q15 F15 => ?_
      refine st_end ?_
      refine blk_n ?_
      refine then_n <| wp_reg ?_
      refine st_pr F15 (PR.op (ex_move rfl) <| PR.op (ex_sub rfl rfl) <| PR.op (ex_asg rfl) <| PR.nil) fun q16 F16 => ?_
      refine st_end ?_
      obtain rfl := some_ok H
      refine then_n ?_
      exact ⟨_, rfl, v4, F16.sub ⟨rfl, rfl, rfl, trivial⟩, s24734'⟩
    ·replace H := ite_f hb0 H
     refine wp_exit <| then_x <| then_x <| blk_hit ?_
     obtain rfl := some_ok H
     obtain rfl := hr _ rfl
     refine then_n ?_
     exact ⟨v2, F3.sub ⟨rfl, trivial⟩, s2⟩
  ·intro q17 w5 hJ
   obtain ⟨v1, F17, s9⟩ := hJ
   have H := R0
   clear R0 H0
   refine then_n <| wp_seq <| wp_reg ?_
   refine st_pr F17 (PR.op (ex_move rfl) <| PR.op (ex_asg rfl) <| PR.nil) fun q18 F18 => ?_
   refine st_end <| then_n ?_
   obtain rfl := some_ok H
   refine wp_ret ?_
   refine ret_gen (rs := [.tmp 6]) (vs := [v1]) F18 (by rfl) ⟨_, _, rfl, RV.tmp rfl, rfl⟩ ⟨_, rfl, ⟨v1, rfl, s9⟩⟩
end Go.Proofs.Ytmeodoidfpcjlaa
